/- Lemmas: an abstract interpreter, and what the functions compute. -/
import Derived.Test.YtepddcbbkhdfiaaGreatDoorZ
import Derived.Test.YtepddcbbkhdfiaaGreatDoorH
import Derived.Test.YtepddcbbkhdfiaaGreatDoorX
import Derived.Test.YtepddcbbkhdfiaaGreatDoorU
import Derived.Test.YtepddcbbkhdfiaaGreatDoorJ
import Derived.Test.YtepddcbbkhdfiaaGreatDoorW
import Derived.Test.YtepddcbbkhdfiaaGreatDoorK
import Derived.Test.YtepddcbbkhdfiaaGreatDoorL
import Derived.Test.YtepddcbbkhdfiaaGreatDoorS
import Derived.Test.YtepddcbbkhdfiaaGreatDoorV
import Derived.Test.YtepddcbbkhdfiaaGreatDoorM
import Derived.Test.YtepddcbbkhdfiaaGreatDoorN
import Derived.Test.YtepddcbbkhdfiaaGreatDoorR
import Derived.Test.YtepddcbbkhdfiaaGreatDoorO
import Derived.Test.YtepddcbbkhdfiaaGreatDoorT
import Derived.Test.YtepddcbbkhdfiaaGreatDoorQ
set_option linter.unusedSimpArgs false
set_option linter.unusedVariables false
set_option linter.unusedSectionVars false
section
namespace Go.Abs
set_option maxRecDepth 100000
def dbX:List UInt8:=[0,1,56,2,57,49,28,3,61,58,42,50,38,29,17,4,62,47,59,36,45,43,51,22,53,39,33,30,24,18,12,5,63,55,48,27,60,41,37,16,46,35,44,21,52,32,23,11,54,26,40,15,34,20,31,10,25,14,19,9,13,8,7,6]
def z1be:List UInt8:=[0,1,28,2,29,14,24,3,30,22,20,15,25,17,4,8,31,27,13,23,21,19,16,7,26,12,18,6,11,5,10,9]
def tX:Nat→List z2a:=fun n=>match n with|0=>z6o kc|1=>z6o kc|3=>bys dbX|4=>bys z1be|_=>[]
def fuX:Nat:=400
noncomputable def fX (l:List (Nat×(List z2a→Option z2a))) (F:z6e):List z2a→Option z2a:=z2cb (xGT tX l) F fuX
noncomputable def z9sd:=fX [] z7ya
noncomputable def z4sd:=fX [(200,z9sd)] z3da
noncomputable def z6sc:List z2a→Option z2a:=z7Nc
noncomputable def z1wb:=fX [] z8K
noncomputable def z50b:List z2a→Option z2a:=xSh
noncomputable def z4Hc:=fX [] z2L
noncomputable def x_7:=fX [(12,z4Hc)] z9y
noncomputable def z3Bc:=fX [(7,x_7)] z8q
noncomputable def z36c:=fX [(164,z3Bc)] z4u
noncomputable def z00b:=fX [(164,z3Bc)] z2u
noncomputable def z0zd:=fX [] z8m
noncomputable def z9Md:=fX [] z0k
noncomputable def z5Od:=fX [(193,z0zd),(194,z9Md)] z3n
noncomputable def z3Tc:=fX [(188,z5Od)] z3m
noncomputable def z6yd:=fX [] z5i
noncomputable def z9vd:=fX [] z3g
noncomputable def z9Ld:=fX [(189,z6yd),(190,z9vd)] z1i
noncomputable def z4ud:=fX [(165,z50b),(166,z36c),(169,z00b),(179,z3Tc),(180,z6sc),(181,z9Ld)] z2l
noncomputable def z4Tc:=fX [] z7u
noncomputable def x_8:List z2a→Option z2a:=xOf
noncomputable def z7de:=fX [(12,z4Hc)] z3C
noncomputable def z7wd:List z2a→Option z2a:=xGr 1
noncomputable def z9jc:=fX [(139,z7wd)] z0p
noncomputable def z1qd:=fX [(7,x_7),(12,z4Hc),(39,z7de),(129,z9jc)] z2n
noncomputable def z48b:List z2a→Option z2a:=fX [(7,x_7),(12,z4Hc),(39,z7de),(129,z9jc),(130,z1qd)] z5r
def z0Rb:List (List z2a×z2a):=[([.agg (xE 1 1 (.sl .plain none 0 []) (.sl .plain none 0 []))],sX [129,4,129,1,128,128,129,1,129,8,128,128,128,128,128,128,128,128,0,0,0,0,0,0,0,0,0,0,0,0,0,0,0,0,128,128]),
 ([.agg (xE 1 2 (.sl .plain none 0 []) (.sl .plain none 0 []))],sX [129,4,129,1,128,128,129,2,129,8,128,128,128,128,128,128,128,128,0,0,0,0,0,0,0,0,0,0,0,0,0,0,0,0,128,128]),
 ([.agg (xE 4 1 (.sl .plain none 0 []) (.sl .plain none 0 []))],sX [129,4,129,4,128,128,129,1,129,8,128,128,128,128,128,128,128,128,0,0,0,0,0,0,0,0,0,0,0,0,0,0,0,0,128,128])]
theorem z1ed:z7Oa z48b z0Rb 0=true:=by kernel_rfl
theorem z16c:z7Oa z48b z0Rb 1=true:=by kernel_rfl
theorem z1Qc:z7Oa z48b z0Rb 2=true:=by kernel_rfl
noncomputable def z1dd:List z2a→Option z2a:=z3Jc z0Rb
noncomputable def z3ac:List z2a→Option z2a:=fX [(8,x_8),(302,z1dd)] z7q
def z4Rb:List (List z2a×z2a):=[([.agg (xE 1 1 (.sl .plain none 0 []) (.sl .plain none 0 []))],.agg (bys [12,247,105,47,134,167,94,207,185,106,250,95,210,127,135,253])),
 ([.agg (xE 1 2 (.sl .plain none 0 []) (.sl .plain none 0 []))],.agg (bys [222,221,53,32,31,115,10,164,53,42,72,187,27,53,28,11])),
 ([.agg (xE 4 1 (.sl .plain none 0 []) (.sl .plain none 0 []))],.agg (bys [178,26,204,160,193,221,106,94,184,210,48,178,89,11,206,52]))]
theorem z28c:z7Oa z3ac z4Rb 0=true:=by kernel_rfl
theorem z8Yc:z7Oa z3ac z4Rb 1=true:=by kernel_rfl
theorem z10c:z7Oa z3ac z4Rb 2=true:=by kernel_rfl
noncomputable def z1Xb:List z2a→Option z2a:=z3Jc z4Rb
noncomputable def z3Nc:XE:={G:=fun n=>match n with|303=>z1Xb|_=>fun _=>none,T:=tX}
noncomputable def z9bd:List z2a→List z2a→Option (List (List z2a)):=xDg z1Xb
noncomputable def z46c:XE:={G:=fun n=>match n with|182=>z4ud|350=>z4Tc|_=>fun _=>none,T:=tX,I:=fun n=>match n with|372=>z9bd|_=>fun _ _=>none}
noncomputable def z7Xc:List z2a→Option z2a:=z2cb z46c z0i fuX
noncomputable def z5Tb:=fX [(180,z6sc),(349,z1wb),(354,z7Xc)] z8u
noncomputable def z2Uc:XE:={G:=fun _ _=>none,T:=tX,I:=fun n=>match n with|372=>z9bd|_=>fun _ _=>none}
noncomputable def z1vd:List z2a→Option z2a:=z2cb z2Uc z7a fuX
noncomputable def z1Ld:=fX [(371,z1vd)] z4d
noncomputable def z6vd:=fX [] z0F
noncomputable def z7yd:=fX [] z0u
noncomputable def z7Bd:=fX [(191,z6vd),(192,z7yd)] z0M
noncomputable def z72c:=fX [(170,z7Bd)] z7r
noncomputable def z2Tc (self:List z2a→Option z2a):XE:={G:=fun n=>match n with|164=>z3Bc|165=>z50b|166=>z36c|167=>z72c|168=>self|169=>z00b|_=>fun _=>none,T:=tX}
noncomputable def z5wc:Nat→List z2a→Option z2a
 |0=>fun _=>none
 |k+1=>z2cb (z2Tc (z5wc k)) z9e fuX
noncomputable def z5ed:List z2a→Option z2a:=z5wc 12
noncomputable def z44c:XE:={G:=fun _ _=>none,T:=tX}
noncomputable def z11c:XM:=z2va z44c z1f fuX [] [1]
noncomputable def z18c:List z2a→List z2a→Option (List (List z2a)):=xBw
noncomputable def z1Xc:XE:={G:=fun n=>match n with|8=>x_8|_=>fun _=>none,T:=tX,M:=fun n=>match n with|183=>z11c|_=>⟨[],[],fun _=>none⟩,I:=fun n=>match n with|184=>z18c|_=>fun _ _=>none}
noncomputable def z9wd:List z2a→Option z2a:=z2cb z1Xc z0l fuX
noncomputable def z1Zc (self:List z2a→Option z2a):XE:={G:=fun n=>match n with|168=>z5ed|352=>self|370=>z9wd|_=>fun _=>none,T:=tX}
noncomputable def z0xc:Nat→List z2a→Option z2a
 |0=>fun _=>none
 |k+1=>z2cb (z1Zc (z0xc k)) z5f fuX
noncomputable def z1Kd:List z2a→Option z2a:=z0xc 12
noncomputable def z8Qc:=fX [(348,z5Tb),(349,z1wb),(350,z4Tc),(351,z1Ld),(352,z1Kd)] z0o
noncomputable def z7Mc:XE:={G:=fun n=>match n with|165=>z50b|168=>z5ed|169=>z00b|179=>z3Tc|_=>fun _=>none,T:=tX,M:=fun n=>match n with|183=>z11c|_=>⟨[],[],fun _=>none⟩,I:=fun n=>match n with|184=>z18c|_=>fun _ _=>none}
noncomputable def z94c:List z2a→Option z2a:=z2cb z7Mc z2g fuX
noncomputable def z1ud:=fX [(185,z94c),(348,z5Tb),(349,z1wb)] z6L
noncomputable def z3vd:=fX [] z9q
noncomputable def z4rd:=fX [(314,z3vd)] z8l
noncomputable def z0Gd:=fX [(312,z4rd)] z3r
noncomputable def z5Dd:=fX [] z8x
noncomputable def z8pc:=fX [] z4m
noncomputable def z4Pd:=fX [(295,z8pc)] z3p
noncomputable def z6qd:=fX [(296,z4Pd)] z8o
noncomputable def z2qd:=fX [(297,z6qd)] z2c
noncomputable def z1Md:=fX [(313,z2qd)] z8b
noncomputable def z3Rc:=fX [] z1o
noncomputable def z4Hd:=fX [(132,z3Rc)] z4r
noncomputable def z3Od:=fX [] z2h
noncomputable def z1Pd:=fX [(132,z3Rc),(133,z4Hd),(301,z3Od)] z0z
noncomputable def z89a:List z2a→Option z2a:=fX [(293,z0Gd),(294,z5Dd),(295,z8pc),(298,z1Md),(299,z1Pd)] z0v
def z64a:List (List z2a×z2a):=[([.agg (xE 1 1 (.sl .plain none 0 []) (.sl .plain none 0 []))],.lit (.bool true)),
 ([.agg (xE 1 2 (.sl .plain none 0 []) (.sl .plain none 0 []))],.lit (.bool true)),
 ([.agg (xE 4 1 (.sl .plain none 0 []) (.sl .plain none 0 []))],.lit (.bool true)),
 ([.agg (xE 3 1 (.sl .plain none 0 []) (.sl .plain none 0 []))],.lit (.bool true)),
 ([.agg (xE 9 0 (.sl .plain none 0 []) (.sl .plain none 0 []))],.lit (.bool false)),
 ([.agg (xE 1 2 (.sl .plain (some true) 0 []) (.sl .plain none 0 []))],.lit (.bool true)),
 ([.agg (xE 4 1 (.sl .plain (some true) 0 []) (.sl .plain none 0 []))],.lit (.bool true))]
theorem z63c:z7Oa z89a z64a 0=true:=by kernel_rfl
theorem z25c:z7Oa z89a z64a 1=true:=by kernel_rfl
theorem z67c:z7Oa z89a z64a 2=true:=by kernel_rfl
theorem z4Oc:z7Oa z89a z64a 3=true:=by kernel_rfl
theorem z27c:z7Oa z89a z64a 4=true:=by kernel_rfl
theorem z06c:z7Oa z89a z64a 5=true:=by kernel_rfl
theorem z2Xc:z7Oa z89a z64a 6=true:=by kernel_rfl
noncomputable def z6vc:List z2a→Option z2a:=z3Jc z64a
noncomputable def z4Ld:=fX [] z8i
noncomputable def z4Fd:=fX [(300,z6vc),(349,z1wb),(356,z4Ld)] z2o
noncomputable def z62c:List z2a→Option z2a:=z69c
noncomputable def z4Nd:=fX [(348,z5Tb),(358,z62c)] z9Ub
noncomputable def z3Kd:=fX [(348,z5Tb),(349,z1wb),(353,z8Qc),(358,z62c)] z7yb
noncomputable def z5od:=fX [] z80
noncomputable def z49c:XE:={G:=fun _ _=>none,T:=tX}
noncomputable def z6Cd:XW:=z8rb z49c z3q fuX [0] [0]
noncomputable def z05d:XE:={G:=fun n=>match n with|165=>z50b|167=>z72c|169=>z00b|175=>z5od|_=>fun _=>none,T:=tX,C:=fun n=>match n with|174=>z6Cd|_=>⟨[],[],fun _ _=>none⟩}
noncomputable def z2Ld:List z2a→Option z2a:=z2cb z05d z7oa fuX
noncomputable def z3Ld:=fX [(300,z6vc)] z9Ca
noncomputable def z7Nd:=fX [(361,z3Ld)] z3x
noncomputable def z3Hd:=fX [(373,z7Nd)] z8t
noncomputable def z1Id:=fX [(176,z2Ld),(185,z94c),(354,z7Xc),(362,z3Hd)] z1Oa
noncomputable def z1Nd:List z2a→Option z2a:=xGr 30
noncomputable def z9Gd:=fX [(374,z1Nd)] z1oa
noncomputable def z4wd:=fX [(180,z6sc),(364,z9Gd)] z0Qb
noncomputable def z8Ad:=fX [] z0eb
noncomputable def z2Fd:=fX [(45,z8Ad)] z0lb
noncomputable def z14d:=fX [(47,z2Fd)] z5Ua
noncomputable def x_55:=fX [(47,z2Fd),(48,z14d)] z8Ia
noncomputable def x_58:=fX [(47,z2Fd)] z0Ka
noncomputable def z2ed:XE:={G:=fun _ _=>none,T:=tX}
noncomputable def z8cd:XM:=z2va z2ed z6s fuX [0] []
noncomputable def z49d:XE:={G:=fun _ _=>none,T:=tX}
noncomputable def m_51:XM:=z2va z49d z4U fuX [] [2,3]
noncomputable def z76d:XE:={G:=fun n=>match n with|45=>z8Ad|_=>fun _=>none,T:=tX}
noncomputable def m_61:XM:=z2va z76d z8G fuX [0,1] []
noncomputable def e_52:XE:={G:=fun n=>match n with|47=>z2Fd|_=>fun _=>none,T:=tX,M:=fun n=>match n with|51=>m_51|61=>m_61|_=>⟨[],[],fun _=>none⟩}
noncomputable def x_52:List z2a→Option z2a:=z2cb e_52 z15a fuX
noncomputable def z74c:XE:={G:=fun n=>match n with|52=>x_52|_=>fun _=>none,T:=tX}
noncomputable def z51c:XM:=z2va z74c z1m fuX [0] []
noncomputable def z79c:XE:={G:=fun n=>match n with|48=>z14d|_=>fun _=>none,T:=tX}
noncomputable def z4ad:XM:=z2va z79c z3l fuX [0] []
noncomputable def z60c:XE:={G:=fun n=>match n with|45=>z8Ad|_=>fun _=>none,T:=tX}
noncomputable def z97c:XM:=z2va z60c z0n fuX [0] []
noncomputable def z5Uc:XE:={G:=fun _ _=>none,T:=tX,M:=fun n=>match n with|316=>z8cd|323=>z51c|324=>z4ad|326=>z97c|_=>⟨[],[],fun _=>none⟩}
noncomputable def z5ud:XM:=z2va z5Uc z5p fuX [0] []
noncomputable def z7Ld:=fX [] z73a
noncomputable def z6Wc:XE:={G:=fun n=>match n with|320=>z7Ld|_=>fun _=>none,T:=tX}
noncomputable def z5Kd:XM:=z2va z6Wc z2m fuX [0] []
noncomputable def z38d:XE:={G:=fun n=>match n with|295=>z8pc|300=>z6vc|_=>fun _=>none,T:=tX,M:=fun n=>match n with|316=>z8cd|318=>z5ud|323=>z51c|324=>z4ad|325=>z5Kd|326=>z97c|_=>⟨[],[],fun _=>none⟩}
noncomputable def z6lc:List z2a→Option z2a:=z2cb z38d z44a fuX
def z04b:List (List z2a×z2a):=[([sX [129,4,129,1,128,128,129,2,129,8,128,128,128,128,128,128,128,128,0,0,0,0,0,0,0,0,0,0,0,0,0,0,0,0,128,128]],.tup [.agg (xE 1 2 (.sl .plain (some true) 0 []) (.sl .plain none 0 [])),z5Wb 0]),
 ([sX [129,4,129,4,128,128,129,1,129,8,128,128,128,128,128,128,128,128,0,0,0,0,0,0,0,0,0,0,0,0,0,0,0,0,128,128]],.tup [.agg (xE 4 1 (.sl .plain (some true) 0 []) (.sl .plain none 0 [])),z5Wb 0])]
theorem z9Vc:z7Oa z6lc z04b 0=true:=by kernel_rfl
theorem z1Wc:z7Oa z6lc z04b 1=true:=by kernel_rfl
noncomputable def z0wd:List z2a→Option z2a:=z3Jc z04b
noncomputable def z75c:XE:={G:=fun _ _=>none,T:=tX}
noncomputable def z82c:XM:=z2va z75c z6N fuX [1] []
noncomputable def z41c:XE:={G:=fun _ _=>none,T:=tX,M:=fun n=>match n with|366=>z82c|_=>⟨[],[],fun _=>none⟩}
noncomputable def z1xd:XW:=z8rb z41c z3N fuX [2,3] [2,3,400009]
noncomputable def z6fe:XE:={G:=fun n=>match n with|45=>z8Ad|55=>x_55|58=>x_58|322=>z0wd|_=>fun _=>none,T:=tX,M:=fun n=>match n with|366=>z82c|_=>⟨[],[],fun _=>none⟩,C:=fun n=>match n with|367=>z1xd|_=>⟨[],[],fun _ _=>none⟩}
noncomputable def z1Gd:List z2a→Option z2a:=z2cb z6fe z8lb fuX
noncomputable def x_41:=fX [(7,x_7),(12,z4Hc)] z63a
noncomputable def x_43:=fX [(12,z4Hc)] z84a
noncomputable def z6wd:=fX [(12,z4Hc),(41,x_41),(43,x_43),(129,z9jc),(302,z1dd)] z9nb
noncomputable def x_60:=fX [] z62
noncomputable def x_54:=fX [] z7f
noncomputable def z6Dd:=fX [(54,x_54)] z9i
noncomputable def z6Kd:=fX [(149,z6Dd)] z8za
noncomputable def z6Od:=fX [(329,z6Kd)] z91
noncomputable def z1Fd:=fX [(60,x_60),(376,z6Od)] z4ya
noncomputable def z4Ed:List z2a→Option z2a:=xOf
noncomputable def z3Ud:=fX [] z1j
noncomputable def z5Nc:=fX [(20,z4Ed),(23,z3Ud)] z3j
noncomputable def z5Gd:=fX [] z5j
noncomputable def z78c:=fX [(214,z5Gd)] z2d
noncomputable def z4Id:=fX [(20,z4Ed),(202,z5Nc),(211,z78c)] z5g
noncomputable def z2dd:=fX [] z2j
noncomputable def z7pd:=fX [(20,z4Ed),(23,z3Ud)] z9ya
noncomputable def z1Od:=fX [(201,z7pd),(202,z5Nc),(211,z78c)] z0Da
noncomputable def z5Ld:=fX [] z3k
noncomputable def z89d:=fX [(30,z5Ld)] z8h
noncomputable def z7ee:=fX [(30,z5Ld)] z5za
noncomputable def z8Bd:=fX [(29,z89d),(30,z5Ld),(40,z7ee)] z5qa
noncomputable def z4pd:=fX [] z7ma
noncomputable def z1Qd:=fX [(23,z3Ud),(29,z89d),(30,z5Ld),(40,z7ee),(147,z8Bd),(332,z4pd)] z9na
noncomputable def z69b:List z2a→Option z2a:=fX [(20,z4Ed),(333,z1Qd)] z2ra
def z5Qb:List (List z2a×z2a):=[([.agg (xE 1 1 (.sl .plain none 0 []) (.sl .plain none 0 []))],.agg (bys [12,247,105,47,134,167,94,207,185,106,250,95,210,127,135,253])),
 ([.agg (xE 1 2 (.sl .plain none 0 []) (.sl .plain none 0 []))],.agg (bys [222,221,53,32,31,115,10,164,53,42,72,187,27,53,28,11])),
 ([.agg (xE 4 1 (.sl .plain none 0 []) (.sl .plain none 0 []))],.agg (bys [178,26,204,160,193,221,106,94,184,210,48,178,89,11,206,52]))]
theorem z9Tc:z7Oa z69b z5Qb 0=true:=by kernel_rfl
theorem z4Qc:z7Oa z69b z5Qb 1=true:=by kernel_rfl
theorem z0Tc:z7Oa z69b z5Qb 2=true:=by kernel_rfl
noncomputable def z3Id:List z2a→Option z2a:=z3Jc z5Qb
noncomputable def z9Jd:=fX [(334,z3Id)] z8ka
noncomputable def z4Cd:=fX [(212,z1Od),(375,z2dd),(382,z9Jd)] z7ua
noncomputable def z6Ad:=fX [(213,z4Id),(375,z2dd),(379,z4Cd)] z3za
noncomputable def z1yd:=fX [] z5ma
noncomputable def z1tc:=fX [(209,z4sd),(348,z5Tb),(349,z1wb),(353,z8Qc),(355,z1ud),(357,z4Fd),(359,z4Nd),(360,z3Kd),(363,z1Id),(365,z4wd),(368,z1Gd),(369,z6wd),(377,z1Fd),(386,z6Ad),(396,z1yd)] z3qa
theorem z55d:(match z1tc [] with|some (.lit (.bool b))=>b|_=>false)=true:=by kernel_rfl
end Go.Abs
end
