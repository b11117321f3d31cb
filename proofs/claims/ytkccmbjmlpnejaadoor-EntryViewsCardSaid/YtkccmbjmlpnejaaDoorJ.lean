/- Lemmas: an abstract interpreter, and what the functions compute. -/
import Derived.Shelf.RegionOpenPlain
import Derived.WalkKit
import Derived.Lib.Walk
import Derived.Lib.SliceRun
import Derived.Lib.AppendZerosOnto
import Derived.Test.YtkccmbjmlpnejaaDoorE
import Derived.Test.YtkccmbjmlpnejaaDoorProg
set_option linter.unusedSimpArgs false
set_option linter.unusedVariables false
set_option linter.unusedSectionVars false
section
set_option linter.unusedVariables false
set_option linter.unusedSimpArgs false
namespace Go.Abs.TrydG
open Go.Abs Go.RowKit Go.Proofs Go.Lib
theorem z4Cc:(Tryd.prog.info? 5).map (fun i=>(i.zero,i.size,i.bytes))=some (some (.int .u8 0),1,1):=by kernel_rfl
theorem z8Wc:∃i0,Tryd.prog.info? 5=some i0∧i0.zero=some (.int .u8 0)∧i0.size=1∧i0.bytes=1:=by
 have h:=z4Cc
 cases hi:Tryd.prog.info? 5 with
 |none=>rw[hi] at h;cases h
 |some i=>
  rw[hi] at h
  simp only[Option.map_some,Option.some.injEq,Prod.mk.injEq] at h
  exact⟨i,rfl,h.1,h.2.1,h.2.2⟩
theorem z3Ob:Tryd.prog.follows .mixedOrders=true:=by kernel_rfl
set_option maxHeartbeats 4000000 in
set_option maxRecDepth 100000 in
theorem z11c (w:World):Calls Tryd.prog 78 #[.slice none 0 0,.int .i64 0] w fun e w'=>e= .returned (.slice none 0 0)∧w'=w:=by
 have mixed:=z3Ob
 have t67:=Tryd.underlying67;have a67:=Tryd.isAgg67;have z67:=Tryd.sizeOf67;have v67:=Tryd.zeroValue67;have u67:=run_underlying Tryd.underlying67
 have t3:=Tryd.underlying3;have a3:=Tryd.isAgg3;have z3:=Tryd.sizeOf3;have v3:=Tryd.zeroValue3;have u3:=run_underlying Tryd.underlying3
 have t4:=Tryd.underlying4;have a4:=Tryd.isAgg4;have z4:=Tryd.sizeOf4;have v4:=Tryd.zeroValue4;have u4:=run_underlying Tryd.underlying4
 have t9:=Tryd.underlying9;have a9:=Tryd.isAgg9;have z9:=Tryd.sizeOf9;have v9:=Tryd.zeroValue9;have u9:=run_underlying Tryd.underlying9
 have t5:=Tryd.underlying5;have a5:=Tryd.isAgg5;have z5:=Tryd.sizeOf5;have v5:=Tryd.zeroValue5;have u5:=run_underlying Tryd.underlying5
 go_enter Tryd.func78,Tryd.ntmps78
 go_wp2
 go_ret
 exact⟨rfl,rfl⟩
set_option maxHeartbeats 4000000 in
set_option maxRecDepth 100000 in
theorem z1Xc (n:Nat) (w:World) (h0:0<n) (hb:n≤10000000000):Calls Tryd.prog 78 #[.slice none 0 0,.int .i64 n] w fun e w'=>
  e= .returned (.slice (some ⟨w.heap.size,0,none⟩) 0 (grownCap w n 0 5))∧n≤grownCap w n 0 5∧∃zs:Array Value,grownCap w n 0 5=zs.size∧w'=w.drew.alloc (.cells zs 5):=by
 obtain⟨i0,hi0,hz0,hs0,hby⟩:=z8Wc
 have mixed:=z3Ob
 have t67:=Tryd.underlying67;have a67:=Tryd.isAgg67;have z67:=Tryd.sizeOf67;have v67:=Tryd.zeroValue67;have u67:=run_underlying Tryd.underlying67
 have t3:=Tryd.underlying3;have a3:=Tryd.isAgg3;have z3:=Tryd.sizeOf3;have v3:=Tryd.zeroValue3;have u3:=run_underlying Tryd.underlying3
 have t4:=Tryd.underlying4;have a4:=Tryd.isAgg4;have z4:=Tryd.sizeOf4;have v4:=Tryd.zeroValue4;have u4:=run_underlying Tryd.underlying4
 have t9:=Tryd.underlying9;have a9:=Tryd.isAgg9;have z9:=Tryd.sizeOf9;have v9:=Tryd.zeroValue9;have u9:=run_underlying Tryd.underlying9
 have t5:=Tryd.underlying5;have a5:=Tryd.isAgg5;have z5:=Tryd.sizeOf5;have v5:=Tryd.zeroValue5;have u5:=run_underlying Tryd.underlying5
 have h1:¬((n:Int)<0):=by omega
 have h2:wrap64 ((0:Int)-(0:Int))=0:=by unfold wrap64;omega
 have h3:wrap64 ((n:Int)-0)=(n:Int):=by unfold wrap64;omega
 have h4:(n:Int)>0:=by omega
 have hold:(Builtin.firstCells i0.size 0 (.slice none 0 0)).run Tryd.prog w.drew= .ok (([]:List Value).toArray) w.drew:=run_firstCells_none w.drew i0.size 0 0 0
 have hrz:∀ty,(Builtin.append_ #[67,3] ty #[.slice none 0 0,.int .i64 (n:Int)]).run Tryd.prog w=
   .ok (.slice (some ⟨w.heap.size,0,none⟩) n (grownCap w n 0 5)) (w.drew.alloc (.cells (([]:List Value).toArray++Builtin.zeroCells (Value.int .u8 0).cells n++Builtin.zeroCells (Value.int .u8 0).cells (grownCap w n 0 5-n)) 5)):=fun ty=>by
  have h:=Lib.run_append_grow_zeros w 67 3 ty 5 i0 (.int .u8 0) .i64 .i64 t67 t3 hi0 hz0 none 0 0 [] hold n (by omega) (by omega) (by omega) (by omega)
   (by rw[hby];omega)
   (growslice_fits (need:=0+n) (old:=0) (bytes:=i0.bytes) (by omega) (by rw[hby];omega))
  rw[Nat.zero_add] at h
  exact h
 have hGn:n≤grownCap w n 0 5:=grownCap_ge w _ _ _
 have hzs:(([]:List Value).toArray++Builtin.zeroCells (Value.int .u8 0).cells n++Builtin.zeroCells (Value.int .u8 0).cells (grownCap w n 0 5-n)).size=grownCap w n 0 5:=by
  simp[Builtin.zeroCells,Value.cells];omega
 obtain⟨G,hG⟩:∃G,G=grownCap w n 0 5:=⟨_,rfl⟩
 rw[←hG] at hrz hGn hzs⊢
 generalize(([]:List Value).toArray++Builtin.zeroCells (Value.int .u8 0).cells n++Builtin.zeroCells (Value.int .u8 0).cells (G-n))=zs at*
 have hG63:G≤9223372036854775807:=by
  have:=grownCap_le_maxLen w n 0 5 (by unfold maxLen;omega)
  rw[←hG] at this
  unfold maxLen at this
  omega
 clear hold hG
 go_enter Tryd.func78,Tryd.ntmps78
 go_wp2_with (at_builtin;refine Lib.wpList_append_run _ rfl _ _ _ _ rfl _ _ rfl rfl _ _ (hrz _) ?_)
 all_goals (go_ret;first|exact⟨rfl,hGn,zs,hzs.symm,rfl⟩|exact⟨rfl,zs,hzs.symm,rfl⟩)
theorem grow_valid {K:Cx} (hP:K.P=Tryd.prog) (hn:K.nu 139=78) (hc:z1aa Tryd.prog 78):z7h K 139 z25a:=by
 refine⟨by rw[hP,hn];exact hc,fun S w ds vs hg hr hp=> ?_⟩
 obtain⟨n,hle,rfl⟩:=hp
 simp only[z6c,z7c,i64] at hr
 obtain⟨x,xs,rfl,h1,y,ys,rfl,rfl,rfl⟩:=hr
 obtain rfl:x= .slice none 0 0:=by
  rcases h1 with⟨_,_,_,_,_,_,h4,_⟩|⟨q,h,_,_,hq⟩
  ·exact absurd rfl h4
  ·cases q with
   |none=>exact h
   |some q=>exact absurd rfl hq
 rw[hP,hn]
 by_cases h0:n=0
 ·subst h0
  refine(z11c w).mono ?_
  rintro e w' ⟨rfl,rfl⟩
  refine⟨_,⟨S,fun _=>none,fun _=>none⟩,rfl,Fr.refl _ _ _,?_,(fun b l h=>by cases h),fun _ _=>rfl⟩
  rw[z2Ka]
  simp only[Rep,z7c]
  exact⟨.inr ⟨none,rfl,trivial,trivial,by simp⟩,fun l' _=> .inl (.inl trivial)⟩
 ·refine(z1Xc n w (by omega) hle).mono ?_
  rintro e w' ⟨rfl,hn,zs,hzs,rfl⟩
  rw[hzs]
  refine⟨_,⟨fun b=>if b=w.heap.size then 0 else S b,fun b=>if b=w.heap.size then some .ret else none,fun _=>none⟩,rfl,?_,?_,fun b l h=> ?_,fun b hb=> ?_⟩
  ·refine⟨rfl,rfl,rfl,?_,fun k hk _=> ?_⟩
   ·simp
   ·exact(show(w.drew.heap.push (Obj.cells zs 5))[k]? =w.heap[k]? by rw[Array.getElem?_push,if_neg (by have:w.drew.heap.size=w.heap.size:=rfl;omega)];rfl)
  ·rw[z2Ka]
   simp only[Rep,z7c,z0f]
   refine⟨.inl ⟨_,_,_,rfl,Nat.zero_le _,trivial,by simp,by simp⟩,fun l' hl'=> .inr ?_⟩
   cases hl'
   refine⟨_,_,rfl,Nat.zero_le _,rfl,by simp,by simp,?_⟩
   have:=z5I w.drew zs 5 (0,0) (by simp) 0 (zs.size-0) (by omega)
   simpa using this
  ·simp only at h
   split at h
   ·subst_vars
    refine⟨Nat.le_refl _,?_⟩
    simp
   ·cases h
  ·simp only
   rw[if_neg (by omega)]
end Go.Abs.TrydG
end
