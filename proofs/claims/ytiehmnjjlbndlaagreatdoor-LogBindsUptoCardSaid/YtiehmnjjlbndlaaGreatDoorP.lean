/- Lemmas. -/
import Derived.Test.YtiehmnjjlbndlaaGreatDoorO
set_option linter.all false
namespace Go.Abs
set_option maxRecDepth 100000
def uP:nH:=
 {n:=2,wr:=[],res:=[.cell 4 (some 30) 4],body:=YR [4] [.norm [4]] [Yo 4 (.alloc 4 (List.replicate 10 (i64 0)++[st []]++[.sl .plain none 0 []]++bys (bF 16)++[.sl (.own 24) none 0 []]++[.sl (.own 1) none 0 []]))] (YR [4] [.norm [4]] [Ym 5 0,Ym 6 1,Yo 7 (.build (List.replicate 10 (i64 0)++[st []]++[.sl .plain none 0 []]++bys (bF 16)++[.sl .plain none 0 []]++[.sl .plain none 0 []]) [(0,1,.s 5),(3,1,.s 6)]),Ys 30 4 4 7] .ret)}
def Dz:List af:=
 [Yf 4 0 1,Yl 5 1 4,YD 6 295 5 0 1099511627776,YU 7 .not 6,Ym 8 7]
def DD:List af:=
 [Yg 8 (Yf 9 2 1),Yg 8 (Yl 10 1 9),Yg 8 (YD 11 295 10 0 2147483647),Yg 8 (YU 12 .not 11),YP 13 8 12,Ym 14 13]
def DC:List af:=
 [Yg 14 (Yf 15 3 1),Yg 14 (Yl 16 1 15),Yg 14 (YD 17 295 16 1 5),Yg 14 (YU 18 .not 17),YP 19 14 18,Ym 20 19]
def DA:List af:=
 [Yg 20 (Yf 21 28 1),Yg 20 (Yl 22 1 21),Yg 20 (Yn 23 22),Yg 20 (YB 24 .gtr 23 4096),YP 25 20 24,Ym 26 25]
def zP:List af:=
 [Yg 26 (Yf 27 29 1),Yg 26 (Yl 28 1 27),Yg 26 (Yn 29 28),Yg 26 (YB 30 .gtr 29 4096),YP 31 26 30]
def zU:List af:=
 [Yf 46 1 1,Yl 47 1 46,YD 48 295 47 1 27,Ym 49 48]
def vz:List af:=
 [YG 49 (Yf 50 4 1),YG 49 (Yf 51 0 50),YG 49 (Yl 52 1 51),YG 49 (Yf 53 1 1),YG 49 (Yl 54 1 53),YG 49 (Yb 55 .eql 52 54),Yp 56 49 55,Ym 57 56]
def uh:List af:=
 [YG 57 (Yf 58 1 1),YG 57 (Yl 59 1 58),YG 57 (Yk 60 293 59),YG 57 (YU 61 .not 60),YG 57 (Ym 62 61),Yg 62 (Yf 63 4 1),Yg 62 (Yf 64 6 63),Yg 62 (Yl 65 1 64),Yg 62 (YW 66 .eql 65 (st [])),YG 57 (YP 67 62 66),Yp 68 57 67,Ym 2 68]
def DH:av:=
 YR [2] [.norm [1,3]] (zU++vz++uh) .ret
def zE:av:=
 Yq (YR [1,38] [.norm [1,3]] [Yf 36 1 1,Yl 37 1 36,YB 38 .eql 37 0] (Yd 38 (YR [2] [.norm [1,3]] [YL 39 30 1 1,Yf 40 0 1,Yl 41 1 40,Yf 42 3 1,Yl 43 1 42,YK 44 294 41 43,YK 45 299 39 44,Ym 2 45] .ret) (Yy [1]))) DH
def vF:av:=
 YR [1,3] [.norm [1,3]] [Yo 3 (.alloc 3 [.lit .nilFunc]),YO (.store none 3 false (.s 3) (.c (.fn 296 [] [])))] (Yq (YR [1,35] [.norm [1,3]] [Yf 32 28 1,Yl 33 1 32,Yo 34 (.mkfn 297 [] [.s 3]),Yo 35 (.call 298 [.s 33,.s 34] [3])] (Yd 35 (Yr [2] [Yw 2 false] .ret) (Yy [1]))) zE)
def tW:nH:=
 {n:=1,wr:=[],res:=[.t 2],body:=YR [1] [.norm [1]] [Yx 1 1 30 0,Yw 2 false] (Yq (YR [1,31] [.norm [1]] (Dz++DD++DC++DA++zP) (Yd 31 (Yr [2] [Yw 2 false] .ret) (Yy [1]))) vF)}
def DY:List af:=
 [Yf 5 0 2,Yl 6 2 5,Yf 7 0 3,Yl 8 3 7,Yb 9 .eql 6 8,Ym 10 9]
def Ee:List af:=
 [YG 10 (Yf 11 1 2),YG 10 (Yl 12 2 11),YG 10 (Yf 13 1 3),YG 10 (Yl 14 3 13),YG 10 (Yb 15 .eql 12 14),Yp 16 10 15,Ym 17 16]
def Ey:List af:=
 [YG 17 (Yf 18 2 2),YG 17 (Yl 19 2 18),YG 17 (Yf 20 2 3),YG 17 (Yl 21 3 20),YG 17 (Yb 22 .eql 19 21),Yp 23 17 22,Ym 24 23]
def Ea:List af:=
 [YG 24 (Yf 25 3 2),YG 24 (Yl 26 2 25),YG 24 (Yf 27 3 3),YG 24 (Yl 28 3 27),YG 24 (Yb 29 .eql 26 28),Yp 30 24 29,Ym 31 30]
def Em:List af:=
 [YG 31 (Yf 32 12 2),YG 31 (YL 33 16 2 32),YG 31 (Yf 34 12 3),YG 31 (YL 35 16 3 34),YG 31 (Yo 36 (.eqF (ks8 16) false (.s 33) (.s 35))),Yp 37 31 36,Ym 38 37]
def Et:List af:=
 [YG 38 (Yf 39 4 2),YG 38 (YL 40 8 2 39),YG 38 (Yf 41 4 3),YG 38 (YL 42 8 3 41),YG 38 (YK 43 133 40 42),Yp 44 38 43,Ym 45 44]
def Ew:List af:=
 [YG 45 (Yf 46 28 2),YG 45 (Yl 47 2 46),YG 45 (Yf 48 28 3),YG 45 (Yl 49 3 48),YG 45 (YK 50 301 47 49),Yp 51 45 50,Ym 52 51]
def En:List af:=
 [YG 52 (Yf 53 29 2),YG 52 (Yl 54 2 53),YG 52 (Yf 55 29 3),YG 52 (Yl 56 3 55),YG 52 (YK 57 132 54 56),Yp 58 52 57,Ym 4 58]
def uR:nH:=
 {n:=2,wr:=[],res:=[.t 4],body:=YR [2,3] [.norm [2,3]] [Yx 2 2 30 0,Yx 3 3 30 1,Yw 4 false] (YR [4] [.norm [2,3]] (DY++Ee++Ey++Ea++Em++Et++Ew++En) .ret)}
def yF:av:=
 Yu [1,3,31,32,33] [YM 39 3,Yf 40 0 5,Yj 41 40,Yf 42 1 5,Yj 43 42,Yf 44 2 5,Yj 45 44,Yf 46 3 5,Yj 47 46,Yf 48 4 5,Yj 49 48,Yf 50 5 5,Yj 51 50,Yf 52 6 5,Yj 53 52,Ym 54 6,Yo 55 (.buildSl 1 8 [i64 0,i64 0,i64 0,i64 0,i64 0,i64 0,i64 0,i64 0] [(0,1,.s 41),(1,1,.s 43),(2,1,.s 45),(3,1,.s 47),(4,1,.s 49),(5,1,.s 51),(6,1,.s 53),(7,1,.s 54)]),Yk 56 39 55,Yf 57 8 5,Yo 58 (.slArr 16 1 (.s 57) none none none),Yo 59 (.buildSl 1 3 [.sl .plain none 0 [],.sl .plain none 0 [],.sl .plain none 0 []] [(0,1,.s 39),(1,1,.s 56),(2,1,.s 58)]),Yk 60 129 59,YM 3 60]
def yv:av:=
 Yq (.block 1 (YR [1,3,5,31,32,33] [.norm [5],.freeze [5],.norm []] [Yi 35 24 31 33,YJ 36 24 35,Yo 5 (.alloc 5 (List.replicate 7 (i64 0)++[bo false]++bys (bF 16))),Ys 24 5 5 36] (Yr [1,3,5,6,31,32,33] [Yc 6 0] (Yq (Yr [1,3,5,6,31,32,33,38] [Yf 37 7 5,Yj 38 37] (Yd 38 (Yu [1,3,5,6,31,32,33] [Yc 6 1]) (Yy [1,3,5,6,31,32,33]))) yF)))) (.region [1,3,31,32,33] [.drop [5]] [YB 61 .add 33 1,Ym 33 61])
def uV:av:=
 Yr [1,3,31,32,33,34] [Yb 34 .lss 33 32] (Yq (Yd 34 (Yy [1,3,31,32,33]) (YY [1,3])) yv)
def Cq:av:=
 Yr [2] [YM 62 3,Yf 63 29 1,Yj 64 63,Yk 65 39 64,YN 66 1 1 62 65,Yo 67 (.toStr none (.s 66)),Ym 2 67] .ret
def sU:nH:=
 {n:=1,wr:=[],res:=[.t 2],body:=YR [1] [.norm [1],.freeze [1],.norm []] [Yx 1 1 30 0,Yo 2 (.mv false (.c (st [])))] (Yr [1,3] [Yf 7 0 1,Yj 8 7,Yf 9 1 1,Yj 10 9,Yf 11 2 1,Yj 12 11,Yf 13 3 1,Yj 14 13,Yo 15 (.buildSl 1 4 [i64 0,i64 0,i64 0,i64 0] [(0,1,.s 8),(1,1,.s 10),(2,1,.s 12),(3,1,.s 14)]),Yk 16 39 15,Yf 17 4 1,YJ 18 8 17,Yk 19 130 18,Yo 20 (.toStr none (.s 19)),Yk 21 7 20,Yf 22 12 1,Yo 23 (.slArr 16 1 (.s 22) none none none),Yf 24 28 1,Yj 25 24,Yn 26 25,Yk 27 12 26,Yo 28 (.buildSl 1 4 [.sl .plain none 0 [],.sl .plain none 0 [],.sl .plain none 0 [],.sl .plain none 0 []] [(0,1,.s 16),(1,1,.s 21),(2,1,.s 23),(3,1,.s 27)]),Yk 29 129 28,YM 3 29] (Yq (Yr [1,3,31,32,33] [Yf 30 28 1,Yj 31 30,Yn 32 31,Yc 33 0] (.block 0 (.loop uV))) Cq))}
def te:nH:=
 {n:=1,wr:=[],res:=[.cell 2 (some 16) 2],body:=YR [1,2] [.norm [1,2]] [Yx 1 1 30 0,Yz 2 2 16] (YR [2] [.norm [1,2]] [YL 3 30 1 1,Yk 4 302 3,Yo 5 (.buildSl 1 1 [st []] [(0,1,.s 4)]),Yo 6 (.call 8 [.c (i64 8),.s 5] []),Ys 16 2 2 6] .ret)}
def s8:nH:=
 {n:=1,wr:=[],res:=[.t 2],body:=Yr [] [Yw 2 false] (Yr [2] [Yo 3 (.buildSl 1 8 [i64 0,i64 0,i64 0,i64 0,i64 0,i64 0,i64 0,i64 0] [(0,1,.c (i64 2)),(1,1,.c (i64 4)),(2,1,.c (i64 5)),(3,1,.c (i64 6)),(4,1,.c (i64 8)),(5,1,.c (i64 10)),(6,1,.c (i64 15)),(7,1,.c (i64 19))]),Ym 4 0,YK 5 312 3 4,Ym 2 5] .ret)}
def rI:nH:=
 {n:=3,wr:=[],res:=[.t 6],body:=Yr [] [Yw 6 false] (Yr [6] [Ym 7 1,Ym 8 0,Yb 9 .leq 7 8,Ym 10 9,YG 10 (Ym 11 0),YG 10 (Ym 12 2),YG 10 (Yb 13 .leq 11 12),Yp 14 10 13,Ym 6 14] .ret)}
def BS:List af:=
 [Yf 3 0 1,Yl 4 1 3,YD 5 295 4 1 2147483647,Ym 6 5]
def BF:List af:=
 [YG 6 (Yf 7 5 1),YG 6 (Yl 8 1 7),YG 6 (YD 9 295 8 1 2147483647),Yp 10 6 9,Ym 11 10]
def BI:List af:=
 [YG 11 (Yf 12 6 1),YG 11 (Yl 13 1 12),YG 11 (YD 14 295 13 0 2147483647),Yp 15 11 14,Ym 16 15]
def Br:List af:=
 [YG 16 (Yf 17 1 1),YG 16 (Yl 18 1 17),YG 16 (YD 19 295 18 0 31),Yp 20 16 19,Ym 21 20]
def BH:List af:=
 [YG 21 (Yf 22 2 1),YG 21 (Yl 23 1 22),YG 21 (YB 24 .andNot 23 956),YG 21 (YB 25 .eql 24 0),Yp 26 21 25,Ym 27 26]
def BB:List af:=
 [YG 27 (Yf 28 3 1),YG 27 (Yl 29 1 28),YG 27 (Yf 30 4 1),YG 27 (Yl 31 1 30),YG 27 (Yo 32 (.call 295 [.s 29,.c (i64 0),.s 31] [])),Yp 33 27 32,Ym 34 33]
def xx:List af:=
 [YG 34 (Yf 35 4 1),YG 34 (Yl 36 1 35),YG 34 (YD 37 295 36 0 1099511627776),Yp 38 34 37,Ym 2 38]
def sB:nH:=
 {n:=1,wr:=[],res:=[.t 2],body:=YR [1] [.norm [1]] [Yx 1 1 24 0,Yw 2 false] (YR [2] [.norm [1]] (BS++BF++BI++Br++BH++BB++xx) .ret)}
def oT:nH:=
 {n:=2,wr:=[],res:=[.t 4],body:=Yr [] [Yw 4 false] (Yr [4] [Ym 5 0,Ym 6 1,YK 7 313 5 6,YB 8 .geq 7 0,Ym 4 8] .ret)}
def sC:nH:=
 {n:=2,wr:=[],res:=[.t 3],body:=YR [2] [.norm [2]] [Yx 2 2 24 0,Yw 3 false] (YR [3] [.norm [2]] [Yj 4 1,YL 5 24 2 2,Yo 6 (.callv 296 (.s 4) [.s 5] []),YU 7 .not 6,Ym 3 7] .ret)}
def ut:av:=
 Yq (.block 1 (Yr [5,12,13] [Ym 15 13,Ym 5 15] (Yr [12,13,24] [Ym 16 0,Ym 17 5,Yi 18 24 16 17,YJ 19 24 18,Ym 20 1,Ym 21 5,Yi 22 24 20 21,YJ 23 24 22,Yo 24 (.eqF kM true (.s 19) (.s 23))] (Yd 24 (Yr [4] [Yw 4 false] .ret) (Yy [12,13]))))) (Yu [12,13] [YB 25 .add 13 1,Ym 13 25])
def sF:av:=
 Yr [12,13,14] [Yb 14 .lss 13 12] (Yq (Yd 14 (Yy [12,13]) (YY [])) ut)
def xZ:av:=
 Yr [4] [Yw 4 true] .ret
def us:av:=
 Yq (Yr [12,13] [Ym 11 0,Yn 12 11,Yc 13 0] (.block 0 (.loop sF))) xZ
def qi:nH:=
 {n:=2,wr:=[],res:=[.t 4],body:=Yr [] [Yw 4 false] (Yq (Yr [10] [Ym 6 0,Yn 7 6,Ym 8 1,Yn 9 8,Yb 10 .neq 7 9] (Yd 10 (Yr [4] [Yw 4 false] .ret) (Yy []))) us)}
def qc:av:=
 Yq (.block 1 (Yr [5,7,8] [Ym 10 8,Ym 5 10] (Yr [5,7,8,16] [Ym 11 1,Ym 12 0,Ym 13 5,Yi 14 24 12 13,YJ 15 24 14,Yo 16 (.callv 297 (.s 11) [.s 15] [])] (Yd 16 (Yr [4] [Ym 17 5,Ym 4 17] .ret) (Yy [7,8]))))) (Yu [7,8] [YB 18 .add 8 1,Ym 8 18])
def pA:av:=
 Yr [7,8,9] [Yb 9 .lss 8 7] (Yq (Yd 9 (Yy [7,8]) (YY [])) qc)
def rE:av:=
 Yr [4] [Yc 4 (-1)] .ret
def oY:nH:=
 {n:=2,wr:=[],res:=[.t 4],body:=Yr [] [Yc 4 0] (Yq (Yr [7,8] [Ym 6 0,Yn 7 6,Yc 8 0] (.block 0 (.loop pA))) rE)}
def rA:nH:=
 {n:=2,wr:=[],res:=[.t 4],body:=Yr [] [Yw 4 false] (Yr [4] [Ym 5 0,Ym 6 1,YK 7 314 5 6,YB 8 .geq 7 0,Ym 4 8] .ret)}
def yj:av:=
 Yq (.block 1 (Yr [5,7,8] [Ym 10 8,Ym 5 10] (Yr [5,7,8,16] [Ym 11 1,Ym 12 0,Ym 13 5,Yi 14 1 12 13,Yj 15 14,Yb 16 .eql 11 15] (Yd 16 (Yr [4] [Ym 17 5,Ym 4 17] .ret) (Yy [7,8]))))) (Yu [7,8] [YB 18 .add 8 1,Ym 8 18])
def uY:av:=
 Yr [7,8,9] [Yb 9 .lss 8 7] (Yq (Yd 9 (Yy [7,8]) (YY [])) yj)
def CL:av:=
 Yr [4] [Yc 4 (-1)] .ret
def sV:nH:=
 {n:=2,wr:=[],res:=[.t 4],body:=Yr [] [Yc 4 0] (Yq (Yr [7,8] [Ym 6 0,Yn 7 6,Yc 8 0] (.block 0 (.loop uY))) CL)}
theorem zn(a x:oH)(l xs:List oH):splice (a::l) 0 (x::xs)=x::splice l 0 xs:=by simp[splice]
theorem zb(l:List oH):splice l 0 []=l:=by simp[splice]
theorem z94{a b:List UInt8}(h:b.length=a.length)(r s:List oH):splice (bys a++r) 0 (bys b++s)=bys b++splice r 0 s:=by
 have h1:(bys b).length=(bys a).length:=by simpa using h
 simp only[splice,List.take_zero,List.nil_append,Nat.zero_add,List.length_append,h1,<-List.drop_drop,List.drop_left,List.append_assoc]
theorem tk_b{d:List UInt8}(h:d.length=16)(r:List oH):(bys d++r).take 16=bys d:=by rw[List.take_append_of_le_length (by simp[h]),List.take_of_length_le (by simp[h])]
theorem z8va{d:List UInt8}(h:d.length=16)(x y:oH):(bys d++[x,y]).take 18=bys d++[x,y]:=List.take_of_length_le (by simp[h])
theorem z1ia{d:List UInt8}(h:d.length=16):(bys d).take 16=bys d:=List.take_of_length_le (by simp[h])
theorem dr_b{d:List UInt8}(h:d.length=16)(r:List oH):(bys d++r).drop 16=r:=List.drop_left' (by simp[h])
theorem z8m(l:List UInt8):(∀c∈bys l,ah c)=True:=eq_true λc hc=>by simp only[bys,List.mem_map] at hc;obtain⟨x,_,rfl⟩:=hc;trivial
theorem z1va(l:List UInt8):(∀c∈bys l,ao c=false)=True:=eq_true λc hc=>by simp only[bys,List.mem_map] at hc;obtain⟨x,_,rfl⟩:=hc;rfl
@[simp] theorem z8U(l:List sy):au (se l)=true:=by
 refine(bE _).2 λc hc=> ?_;obtain⟨m,_,h⟩:=List.mem_flatMap.1 hc;rcases List.mem_append.1 h with h|h
 ·simp only[List.mem_cons,List.not_mem_nil,or_false] at h;rcases h with rfl|rfl|rfl|rfl|rfl|rfl|rfl|rfl<;>rfl
 simp only[bys,List.mem_map] at h;obtain⟨x,_,rfl⟩:=h;rfl
theorem IL{m:sy}:∀c∈uK m,ak c=true∧ah c:=by
 intro c hc;rcases List.mem_append.1 hc with h|h
 ·simp only[List.mem_cons,List.not_mem_nil,or_false] at h;rcases h with rfl|rfl|rfl|rfl|rfl|rfl|rfl|rfl<;>exact⟨rfl,trivial⟩
 simp only[bys,List.mem_map] at h;obtain⟨x,_,rfl⟩:=h;exact⟨rfl,trivial⟩
@[simp] theorem Vb(nc nm ng:Option Bool)(x:pm):au (qf nc nm ng x)=true:=by simp[qf,yP]
@[simp] theorem z6fa(nc nm ng:Option Bool)(x:pm):hdA (qf nc nm ng x)=i64 x.time:=rfl
@[simp] theorem ent_1(nc nm ng:Option Bool)(x:pm):hdA ((qf nc nm ng x).drop 1)=i64 x.kind:=rfl
@[simp] theorem ent_1t(nc nm ng:Option Bool)(x:pm):hdA (qf nc nm ng x).tail=i64 x.kind:=rfl
@[simp] theorem ent_2(nc nm ng:Option Bool)(x:pm):hdA ((qf nc nm ng x).drop 2)=i64 x.req:=rfl
@[simp] theorem ent_3(nc nm ng:Option Bool)(x:pm):hdA ((qf nc nm ng x).drop 3)=i64 x.mode:=rfl
@[simp] theorem ent_4(nc nm ng:Option Bool)(x:pm):hdA ((qf nc nm ng x).drop 4)=i64 x.cmd.kind:=rfl
@[simp] theorem ent_5(nc nm ng:Option Bool)(x:pm):hdA ((qf nc nm ng x).drop 5)=i64 x.cmd.key:=rfl
@[simp] theorem ent_10(nc nm ng:Option Bool)(x:pm):hdA ((qf nc nm ng x).drop 10)=st x.cmd.data:=rfl
@[simp] theorem z0ra(nc nm ng:Option Bool)(x:pm):((qf nc nm ng x).drop 4).take 8=yP x.cmd nc:=rfl
theorem WJ(nc nm ng:Option Bool)(x:pm):(qf nc nm ng x).drop 12=bys x.dig++[.sl .plain nm x.made.length (se x.made),.sl .plain ng x.gone.length (rD x.gone)]:=by rw[show qf nc nm ng x=([i64 x.time,i64 x.kind,i64 x.req,i64 x.mode]++yP x.cmd nc)++(bys x.dig++[.sl .plain nm x.made.length (se x.made),.sl .plain ng x.gone.length (rD x.gone)]) by simp[qf]];exact List.drop_left' rfl
theorem FC{nc nm ng:Option Bool}{x:pm}(h:x.dig.length=16):((qf nc nm ng x).drop 12).take 16=bys x.dig:=by rw[WJ,tk_b h]
theorem Uq{nc nm ng:Option Bool}{x:pm}(h:x.dig.length=16):(qf nc nm ng x).drop 28=[.sl .plain nm x.made.length (se x.made),.sl .plain ng x.gone.length (rD x.gone)]:=by rw[show 28=12+16 by rfl,<-List.drop_drop,WJ,dr_b h]
theorem Gy{nc nm ng:Option Bool}{x:pm}(h:x.dig.length=16):hdA ((qf nc nm ng x).drop 28)= .sl .plain nm x.made.length (se x.made):=by rw[Uq h];rfl
theorem Gu{nc nm ng:Option Bool}{x:pm}(h:x.dig.length=16):hdA ((qf nc nm ng x).drop 29)= .sl .plain ng x.gone.length (rD x.gone):=by rw[show 29=28+1 by rfl,<-List.drop_drop,Uq h];rfl
theorem T3{nc nm ng:Option Bool}{x:pm}(h:x.dig.length=16):(qf nc nm ng x).take 30=qf nc nm ng x:=List.take_of_length_le (by rw[uD h];exact Nat.le_refl _)
theorem Qz{nc nm ng:Option Bool}{x:pm}:∀c∈qf nc nm ng x,ah c∧ao c=false:=by intro c hc;simp only[qf,yP,List.mem_append,List.mem_cons,List.not_mem_nil,or_false,bys,List.mem_map] at hc;rcases hc with(((h|h|h|h)|(h|h|h|h|h|h|h|h))|⟨u,_,h⟩)|(h|h)<;>subst h<;>exact⟨trivial,rfl⟩
@[simp] theorem z9ka(nc nm ng:Option Bool)(x:pm):(∀c∈qf nc nm ng x,ah c)=True:=eq_true λc hc=>(Qz c hc).1
@[simp] theorem z5ta(nc nm ng:Option Bool)(x:pm):(∀c∈qf nc nm ng x,ao c=false)=True:=eq_true λc hc=>(Qz c hc).2
@[simp] theorem z3R(l:List sy):pT (se l)=[]:=by
 induction l with
 |nil=>rfl
 |cons a l ih=>rw[se] at ih⊢;rw[List.flatMap_cons,Eu,ih];simp[uK,pT]
@[simp] theorem z0fa(nc nm ng:Option Bool)(x:pm):pT (qf nc nm ng x)=[]:=by simp[qf,yP,pT]
@[simp] theorem z3qa:z3X.length=16:=rfl
def pS(l:List pm):List oH:=l.flatMap (qf none none none)
def Bh(l:List pm):Prop:=∀x∈l,x.small
def qn(nl:Option Bool)(l:List pm):oH:= .sl .plain nl l.length (pS l)
theorem W7(a b:List pm):pS (a++b)=pS a++pS b:=List.flatMap_append
theorem Bq{x:pm}(h:x.small):(qf none none none x).length=30:=uD h.1.2.2.2.2.2.1
theorem sd{l:List pm}(h:Bh l):(pS l).length=l.length*30:=by
 induction l with
 |nil=>rfl
 |cons a l ih=>have:=ih λm hm=>h m (by simp[hm]);rw[pS] at this⊢;rw[List.flatMap_cons,List.length_append,this,Bq (h a (by simp)),List.length_cons];omega
theorem yO{l:List pm}(h:Bh l){i:Nat}(hi:i<l.length):((pS l).drop (i*30)).take 30=qf none none none l[i]:=by have e1:=Dk (enc:=qf none none none) (P:=pm.small) (w:=30) (λa ha=>Bq ha) l i h;rw[show pS l=l.flatMap (qf none none none) from rfl,e1,List.drop_eq_getElem_cons hi,List.flatMap_cons,List.take_left' (Bq (h _ (List.getElem_mem hi)))]
theorem S8{l:List pm}(h:Bh l)(i:Nat):(pS l).drop (i*30)=pS (l.drop i):=Dk (enc:=qf none none none) (P:=pm.small) (w:=30) (λa ha=>Bq ha) l i h
theorem K2{l:List pm}(h:Bh l)(i:Nat):(pS l).take (i*30)=pS (l.take i):=by
 have h1:Bh (l.take i):=λx hx=>h x (List.mem_of_mem_take hx);by_cases hi:i<=l.length
 ·conv=>lhs;rw[<-List.take_append_drop i l,W7]
  rw[List.take_left' (by rw[sd h1,List.length_take];congr 1;omega)]
 rw[List.take_of_length_le (by rw[sd h];exact Nat.mul_le_mul_right _ (by omega)),List.take_of_length_le (by omega)]
@[simp] theorem z0U(l:List pm):au (pS l)=true:=by refine(bE _).2 λc hc=> ?_;obtain⟨m,_,h⟩:=List.mem_flatMap.1 hc;exact(bE _).1 (Vb none none none m) c h
def Cr(n:Nat)(cs:List oH):List pm:=gLw 30 K4 n cs
theorem An{l:List pm}(h:Bh l):Cr l.length (pS l)=l:=Wj (enc:=qf none none none) (P:=pm.small) (λa ha=>Bq ha) (λa ha=>ME ha) l h
structure lf where
 size:Nat
 roots:List (List UInt8)
 ents:List pm
def Iu(nr ne:Option Bool)(l:lf):oH:= .agg [i64 l.size,ur nr l.roots,qn ne l.ents]
def QU(d:oH):lf:=match d with| .agg [a,b,c]=>⟨(asI a).toNat,gDs b,Cr (gNn c) (gCs c)⟩|_=>⟨0,[],[]⟩
structure lf.ok (l:lf):Prop where
 r:qm l.roots
 o:l.roots.length=oN l.size
 e:Bh l.ents
 n:l.ents.length<=1000
 s:l.size+l.ents.length<=62000
def lf.len(l:lf):Nat:=l.size+l.ents.length
theorem T7{nr ne:Option Bool}{l:lf}(h:l.ok):QU (Iu nr ne l)=l:=by simp only[QU,Iu,ur,qn,gNn,gCs,An h.e,uv h.r];simp
def oO(l:List pm):List (List UInt8):=l.map λx=>bh 8 [tL x]
theorem Mv(l:List pm):qm (oO l):=λd hd=>by obtain⟨x,_,rfl⟩:=List.mem_map.1 hd;exact pG _ _
def Ty:aW:=⟨λds=>∃(nr ne:Option Bool) (l:lf),l.ok∧ds=[Iu nr ne l],λds=>i64 ((QU (nth ds 0)).len:Int)⟩
theorem Qh{nr ne:Option Bool}{l:lf}(h:l.ok):Ty.pre [Iu nr ne l]=True:=eq_true ⟨nr,ne,l,h,rfl⟩
theorem IC{nr ne:Option Bool}{l:lf}(h:l.ok):Ty.post [Iu nr ne l]=i64 (l.len:Int):=by show i64 ((QU (Iu nr ne l)).len:Int)=_;rw[T7 h]
def KO:aW:=⟨λds=>∃(nl:Option Bool) (n:Nat) (cs:List oH),cs.length=n*30∧(∀c∈cs,ak c=true∧ah c)∧n<=1000000∧ds=[.sl .plain nl n cs],λds=>match nth ds 0 with| .sl _ _ n cs=> .sl (.own 30) none n cs|_=> .undef⟩
end Go.Abs