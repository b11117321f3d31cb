/- Lemmas. -/
import Derived.Lib.AppendZerosOnto
import Derived.Test.YtiehmnjjlbndlaaGreatDoorE1
set_option linter.all false
set_option linter.unusedVariables false
set_option linter.unusedSimpArgs false
namespace Go.Abs
open Go.RowKit Go.Proofs Go.Lib
theorem z3ka{P:Program}{K:Cx}{ab fn mx e wd:Nat}{c:aW}(hP:K.P=P)(hn:K.nu ab=fn)(hc:ek P fn)(hpre:∀ds,c.pre ds->∃n:Nat,n<=mx∧ds=[.sl .plain (some true) 0 [],i64 n])(hpost:∀ds,c.post ds= .sl (.own wd) none 0 [])
  (hZ:∀w:World,Calls P fn #[.slice none 0 0,.int .i64 0] w λe w'=>e= .returned (.slice none 0 0)∧w'=w)
  (hN:∀(n:Nat) (w:World),0<n->n<=mx->Calls P fn #[.slice none 0 0,.int .i64 n] w λr w'=>r= .returned (.slice (some ⟨w.heap.size,0,none⟩) 0 (grownCap w n 0 e))∧n<=grownCap w n 0 e∧∃zs:Array Value,grownCap w n 0 e*wd=zs.size∧w'=w.drew.alloc (.cells zs e)):oK K ab c:=by
 refine⟨by rw[hP,hn];exact hc,λS w ds vs hg hr hp=> ?_⟩;obtain⟨n,hle,rfl⟩:=hpre ds hp;simp only[ag,ap,i64] at hr;obtain⟨x,xs,rfl,h1,y,ys,rfl,rfl,rfl⟩:=hr;obtain rfl:x= .slice none 0 0:=by
  rcases h1 with⟨_,_,_,_,_,_,h4,_⟩|⟨q,h,_,_,hq⟩
  ·exact absurd rfl h4
  cases q with
  |none=>exact h
  |some q=>exact absurd rfl hq
 rw[hP,hn];by_cases h0:n=0
 ·subst h0;refine(hZ w).mono ?_;rintro e w' ⟨rfl,rfl⟩;refine⟨_,⟨S,λ_=>none,λ_=>none⟩,rfl,Fr.refl _ _ _,?_,(λb l h=>by cases h),λ_ _=>rfl⟩;rw[hpost];simp only[Rep,ap];exact⟨.inr ⟨none,rfl,trivial,trivial,by simp⟩,λl' _=> .inl (.inl trivial)⟩
 refine(hN n w (by omega) hle).mono ?_;rintro r w' ⟨rfl,hn,zs,hzs,rfl⟩;generalize grownCap w n 0 e=G at*
 refine⟨_,⟨λb=>if b=w.heap.size then 0 else S b,λb=>if b=w.heap.size then some .ret else none,λ_=>none⟩,rfl,?_,?_,λb l h=> ?_,λb hb=> ?_⟩
 ·refine⟨rfl,rfl,rfl,?_,λk hk _=> ?_⟩
  ·simp
  exact(show(w.drew.heap.push (Obj.cells zs e))[k]? =w.heap[k]? by rw[Array.getElem?_push,if_neg (by have:w.drew.heap.size=w.heap.size:=rfl;omega)];rfl)
 ·rw[hpost];simp only[Rep,ap,am];refine⟨.inl ⟨_,_,_,rfl,Nat.zero_le _,trivial,by simp,by simp⟩,λl' hl'=> .inr ?_⟩;cases hl';refine⟨_,_,rfl,Nat.zero_le _,by simp,by simp,by simp,?_⟩;have:=uM w.drew zs e (0,0) (by simp) 0 (zs.size-0) (by omega);simpa[hzs] using this
 ·simp only at h;split at h
  ·subst_vars
   refine⟨Nat.le_refl _,?_⟩;simp
  cases h
 simp only;rw[if_neg (by omega)]
end Go.Abs
namespace Go.Abs.TryzG
open Go.Abs Go.RowKit Go.Proofs Go.Lib
theorem VZ:(Tryz.prog.info? 5).map (λi=>(i.zero.map (λz=>z.cells.size),i.size,i.bytes))=some (some 1,1,1):=by kernel_rfl
theorem z7B:∃i0 z,Tryz.prog.info? 5=some i0∧i0.zero=some z∧z.cells.size=1∧i0.size=1∧i0.bytes=1:=by
 have h:=VZ;cases hi:Tryz.prog.info? 5 with
 |none=>rw[hi] at h;cases h
 |some i=>
  rw[hi] at h;simp only[Option.map_some,Option.some.injEq,Prod.mk.injEq] at h;obtain⟨h1,h2,h3⟩:=h;cases hz:i.zero with
  |none=>rw[hz] at h1;cases h1
  |some z=>rw[hz] at h1;exact⟨i,z,rfl,hz,Option.some.inj h1,h2,h3⟩
theorem Pc:Tryz.prog.follows .mixedOrders=true:=by kernel_rfl
set_option maxHeartbeats 4000000 in
set_option maxRecDepth 100000 in
theorem z4u(w:World):Calls Tryz.prog 120 #[.slice none 0 0,.int .i64 0] w λe w'=>e= .returned (.slice none 0 0)∧w'=w:=by
 have mixed:=Pc;have t82:=Tryz.underlying82;have a82:=Tryz.isAgg82;have z82:=Tryz.sizeOf82;have v82:=Tryz.zeroValue82;have u82:=run_underlying Tryz.underlying82;have t3:=Tryz.underlying3;have a3:=Tryz.isAgg3;have z3:=Tryz.sizeOf3;have v3:=Tryz.zeroValue3;have u3:=run_underlying Tryz.underlying3;have t4:=Tryz.underlying4;have a4:=Tryz.isAgg4;have z4:=Tryz.sizeOf4;have v4:=Tryz.zeroValue4;have u4:=run_underlying Tryz.underlying4;have t9:=Tryz.underlying9;have a9:=Tryz.isAgg9;have z9:=Tryz.sizeOf9;have v9:=Tryz.zeroValue9;have u9:=run_underlying Tryz.underlying9;have t5:=Tryz.underlying5;have a5:=Tryz.isAgg5;have z5:=Tryz.sizeOf5;have v5:=Tryz.zeroValue5;have u5:=run_underlying Tryz.underlying5
 go_enter Tryz.func120,Tryz.ntmps120
 go_wp2
 go_ret
 exact⟨rfl,rfl⟩
set_option maxHeartbeats 4000000 in
set_option maxRecDepth 100000 in
theorem z8q(n:Nat)(w:World)(h0:0<n)(hb:n<=10000000000):Calls Tryz.prog 120 #[.slice none 0 0,.int .i64 n] w λe w'=>
  e= .returned (.slice (some ⟨w.heap.size,0,none⟩) 0 (grownCap w n 0 5))∧n<=grownCap w n 0 5∧∃zs:Array Value,grownCap w n 0 5*1=zs.size∧w'=w.drew.alloc (.cells zs 5):=by
 obtain⟨i0,z0,hi0,hz0,hzc,hs0,hby⟩:=z7B;have mixed:=Pc;have t82:=Tryz.underlying82;have a82:=Tryz.isAgg82;have z82:=Tryz.sizeOf82;have v82:=Tryz.zeroValue82;have u82:=run_underlying Tryz.underlying82;have t3:=Tryz.underlying3;have a3:=Tryz.isAgg3;have z3:=Tryz.sizeOf3;have v3:=Tryz.zeroValue3;have u3:=run_underlying Tryz.underlying3;have t4:=Tryz.underlying4;have a4:=Tryz.isAgg4;have z4:=Tryz.sizeOf4;have v4:=Tryz.zeroValue4;have u4:=run_underlying Tryz.underlying4;have t9:=Tryz.underlying9;have a9:=Tryz.isAgg9;have z9:=Tryz.sizeOf9;have v9:=Tryz.zeroValue9;have u9:=run_underlying Tryz.underlying9;have t5:=Tryz.underlying5;have a5:=Tryz.isAgg5;have z5:=Tryz.sizeOf5;have v5:=Tryz.zeroValue5;have u5:=run_underlying Tryz.underlying5;have h1:¬((n:Int)<0):=by omega
 have h2:wrap64 ((0:Int)-(0:Int))=0:=by unfold wrap64;omega
 have h3:wrap64 ((n:Int)-0)=(n:Int):=by unfold wrap64;omega
 have h4:(n:Int)>0:=by omega
 have hold:(Builtin.firstCells i0.size 0 (.slice none 0 0)).run Tryz.prog w.drew= .ok (([]:List Value).toArray) w.drew:=run_firstCells_none w.drew i0.size 0 0 0;have hrz:∀ty,(Builtin.append_ #[82,3] ty #[.slice none 0 0,.int .i64 (n:Int)]).run Tryz.prog w=
   .ok (.slice (some ⟨w.heap.size,0,none⟩) n (grownCap w n 0 5)) (w.drew.alloc (.cells (([]:List Value).toArray++Builtin.zeroCells z0.cells n++Builtin.zeroCells z0.cells (grownCap w n 0 5-n)) 5)):=λty=>by
  have h:=Lib.run_append_grow_zeros w 82 3 ty 5 i0 z0 .i64 .i64 t82 t3 hi0 hz0 none 0 0 [] hold n (by omega) (by omega) (by omega) (by omega)
   (by rw[hby];omega)
   (growslice_fits (need:=0+n) (old:=0) (bytes:=i0.bytes) (by omega) (by rw[hby];omega))
  rw[Nat.zero_add] at h;exact h
 have hGn:n<=grownCap w n 0 5:=grownCap_ge w _ _ _;have hzs:(([]:List Value).toArray++Builtin.zeroCells z0.cells n++Builtin.zeroCells z0.cells (grownCap w n 0 5-n)).size=grownCap w n 0 5*1:=by simp only[Builtin.zeroCells,Array.size_append,Array.size_map,Array.size_range,hzc];simp;omega
 obtain⟨G,hG⟩:∃G,G=grownCap w n 0 5:=⟨_,rfl⟩;rw[<-hG] at hrz hGn hzs⊢;generalize(([]:List Value).toArray++Builtin.zeroCells z0.cells n++Builtin.zeroCells z0.cells (G-n))=zs at*
 have hG63:G<=9223372036854775807:=by have:=grownCap_le_maxLen w n 0 5 (by unfold maxLen;omega);rw[<-hG] at this;unfold maxLen at this;omega
 clear hold hG
 go_enter Tryz.func120,Tryz.ntmps120
 go_wp2_with (at_builtin;refine Lib.wpList_append_run _ rfl _ _ _ _ rfl _ _ rfl rfl _ _ (hrz _) ?_)
 all_goals (go_ret;first|exact⟨rfl,hGn,zs,by omega,rfl⟩|exact⟨rfl,zs,by omega,rfl⟩)
theorem grow_valid{K:Cx}(hP:K.P=Tryz.prog)(hn:K.nu 139=120)(hc:ek Tryz.prog 120):oK K 139 N4:=
 z3ka (mx:=10000000000) (e:=5) (wd:=1) hP hn hc (λ_ h=>h) (λ_=>rfl) z4u z8q
end Go.Abs.TryzG
namespace Go.Abs.TryzH
open Go.Abs Go.RowKit Go.Proofs Go.Lib
theorem VZ:(Tryz.prog.info? 51).map (λi=>(i.zero.map (λz=>z.cells.size),i.size,i.bytes))=some (some 30,30,184):=by kernel_rfl
theorem z7B:∃i0 z,Tryz.prog.info? 51=some i0∧i0.zero=some z∧z.cells.size=30∧i0.size=30∧i0.bytes=184:=by
 have h:=VZ;cases hi:Tryz.prog.info? 51 with
 |none=>rw[hi] at h;cases h
 |some i=>
  rw[hi] at h;simp only[Option.map_some,Option.some.injEq,Prod.mk.injEq] at h;obtain⟨h1,h2,h3⟩:=h;cases hz:i.zero with
  |none=>rw[hz] at h1;cases h1
  |some z=>rw[hz] at h1;exact⟨i,z,rfl,hz,Option.some.inj h1,h2,h3⟩
theorem Pc:Tryz.prog.follows .mixedOrders=true:=by kernel_rfl
set_option maxHeartbeats 4000000 in
set_option maxRecDepth 100000 in
theorem z4u(w:World):Calls Tryz.prog 106 #[.slice none 0 0,.int .i64 0] w λe w'=>e= .returned (.slice none 0 0)∧w'=w:=by
 have mixed:=Pc;have t25:=Tryz.underlying25;have a25:=Tryz.isAgg25;have z25:=Tryz.sizeOf25;have v25:=Tryz.zeroValue25;have u25:=run_underlying Tryz.underlying25;have t3:=Tryz.underlying3;have a3:=Tryz.isAgg3;have z3:=Tryz.sizeOf3;have v3:=Tryz.zeroValue3;have u3:=run_underlying Tryz.underlying3;have t4:=Tryz.underlying4;have a4:=Tryz.isAgg4;have z4:=Tryz.sizeOf4;have v4:=Tryz.zeroValue4;have u4:=run_underlying Tryz.underlying4;have t9:=Tryz.underlying9;have a9:=Tryz.isAgg9;have z9:=Tryz.sizeOf9;have v9:=Tryz.zeroValue9;have u9:=run_underlying Tryz.underlying9;have t51:=Tryz.underlying51;have a51:=Tryz.isAgg51;have z51:=Tryz.sizeOf51;have v51:=Tryz.zeroValue51;have u51:=run_underlying Tryz.underlying51
 go_enter Tryz.func106,Tryz.ntmps106
 go_wp2
 go_ret
 exact⟨rfl,rfl⟩
set_option maxHeartbeats 4000000 in
set_option maxRecDepth 100000 in
theorem z8q(n:Nat)(w:World)(h0:0<n)(hb:n<=1000000):Calls Tryz.prog 106 #[.slice none 0 0,.int .i64 n] w λe w'=>
  e= .returned (.slice (some ⟨w.heap.size,0,none⟩) 0 (grownCap w n 0 51))∧n<=grownCap w n 0 51∧∃zs:Array Value,grownCap w n 0 51*30=zs.size∧w'=w.drew.alloc (.cells zs 51):=by
 obtain⟨i0,z0,hi0,hz0,hzc,hs0,hby⟩:=z7B;have mixed:=Pc;have t25:=Tryz.underlying25;have a25:=Tryz.isAgg25;have z25:=Tryz.sizeOf25;have v25:=Tryz.zeroValue25;have u25:=run_underlying Tryz.underlying25;have t3:=Tryz.underlying3;have a3:=Tryz.isAgg3;have z3:=Tryz.sizeOf3;have v3:=Tryz.zeroValue3;have u3:=run_underlying Tryz.underlying3;have t4:=Tryz.underlying4;have a4:=Tryz.isAgg4;have z4:=Tryz.sizeOf4;have v4:=Tryz.zeroValue4;have u4:=run_underlying Tryz.underlying4;have t9:=Tryz.underlying9;have a9:=Tryz.isAgg9;have z9:=Tryz.sizeOf9;have v9:=Tryz.zeroValue9;have u9:=run_underlying Tryz.underlying9;have t51:=Tryz.underlying51;have a51:=Tryz.isAgg51;have z51:=Tryz.sizeOf51;have v51:=Tryz.zeroValue51;have u51:=run_underlying Tryz.underlying51;have h1:¬((n:Int)<0):=by omega
 have h2:wrap64 ((0:Int)-(0:Int))=0:=by unfold wrap64;omega
 have h3:wrap64 ((n:Int)-0)=(n:Int):=by unfold wrap64;omega
 have h4:(n:Int)>0:=by omega
 have hold:(Builtin.firstCells i0.size 0 (.slice none 0 0)).run Tryz.prog w.drew= .ok (([]:List Value).toArray) w.drew:=run_firstCells_none w.drew i0.size 0 0 0;have hrz:∀ty,(Builtin.append_ #[25,3] ty #[.slice none 0 0,.int .i64 (n:Int)]).run Tryz.prog w=
   .ok (.slice (some ⟨w.heap.size,0,none⟩) n (grownCap w n 0 51)) (w.drew.alloc (.cells (([]:List Value).toArray++Builtin.zeroCells z0.cells n++Builtin.zeroCells z0.cells (grownCap w n 0 51-n)) 51)):=λty=>by
  have h:=Lib.run_append_grow_zeros w 25 3 ty 51 i0 z0 .i64 .i64 t25 t3 hi0 hz0 none 0 0 [] hold n (by omega) (by omega) (by omega) (by omega)
   (by rw[hby];omega)
   (growslice_fits (need:=0+n) (old:=0) (bytes:=i0.bytes) (by omega) (by rw[hby];omega))
  rw[Nat.zero_add] at h;exact h
 have hGn:n<=grownCap w n 0 51:=grownCap_ge w _ _ _;have hzs:(([]:List Value).toArray++Builtin.zeroCells z0.cells n++Builtin.zeroCells z0.cells (grownCap w n 0 51-n)).size=grownCap w n 0 51*30:=by simp only[Builtin.zeroCells,Array.size_append,Array.size_map,Array.size_range,hzc];simp;omega
 obtain⟨G,hG⟩:∃G,G=grownCap w n 0 51:=⟨_,rfl⟩;rw[<-hG] at hrz hGn hzs⊢;generalize(([]:List Value).toArray++Builtin.zeroCells z0.cells n++Builtin.zeroCells z0.cells (G-n))=zs at*
 have hG63:G<=9223372036854775807:=by have:=grownCap_le_maxLen w n 0 51 (by unfold maxLen;omega);rw[<-hG] at this;unfold maxLen at this;omega
 clear hold hG
 go_enter Tryz.func106,Tryz.ntmps106
 go_wp2_with (at_builtin;refine Lib.wpList_append_run _ rfl _ _ _ _ rfl _ _ rfl rfl _ _ (hrz _) ?_)
 all_goals (go_ret;first|exact⟨rfl,hGn,zs,by omega,rfl⟩|exact⟨rfl,zs,by omega,rfl⟩)
theorem grow_valid{K:Cx}(hP:K.P=Tryz.prog)(hn:K.nu 374=106)(hc:ek Tryz.prog 106):oK K 374 Li:=
 z3ka (mx:=1000000) (e:=51) (wd:=30) hP hn hc (λ_ h=>h) (λ_=>rfl) z4u z8q
end Go.Abs.TryzH