/- Lemmas: an abstract interpreter, and what the functions compute. -/
import Derived.Test.YtepddcbbkhdfiaaGreatDoorY
import Derived.Test.YtepddcbbkhdfiaaGreatDoorG
import Derived.Test.YtepddcbbkhdfiaaGreatDoorX
import Derived.Test.YtepddcbbkhdfiaaGreatDoorW
import Derived.Test.YtepddcbbkhdfiaaGreatDoorS
import Derived.Test.YtepddcbbkhdfiaaGreatDoorI
import Derived.Test.YtepddcbbkhdfiaaGreatDoorK
import Derived.Test.YtepddcbbkhdfiaaGreatDoorR
import Derived.Test.YtepddcbbkhdfiaaGreatDoorU
import Derived.Test.YtepddcbbkhdfiaaGreatDoorL
import Derived.Test.YtepddcbbkhdfiaaGreatDoorM
import Derived.Test.YtepddcbbkhdfiaaGreatDoorP
import Derived.Test.YtepddcbbkhdfiaaGreatDoorN
import Derived.Test.YtepddcbbkhdfiaaGreatDoorT
set_option linter.unusedSimpArgs false
set_option linter.unusedVariables false
set_option linter.unusedSectionVars false
section
namespace Go.Abs
set_option maxRecDepth 100000
def dbX:List UInt8:=[0,1,56,2,57,49,28,3,61,58,42,50,38,29,17,4,62,47,59,36,45,43,51,22,53,39,33,30,24,18,12,5,63,55,48,27,60,41,37,16,46,35,44,21,52,32,23,11,54,26,40,15,34,20,31,10,25,14,19,9,13,8,7,6]
def z0le:List UInt8:=[0,1,28,2,29,14,24,3,30,22,20,15,25,17,4,8,31,27,13,23,21,19,16,7,26,12,18,6,11,5,10,9]
def tX:Nat→List z0a:=fun n=>match n with|0=>z7g kc|1=>z7g kc|3=>bys dbX|4=>bys z0le|_=>[]
def fuX:Nat:=400
noncomputable def fX (l:List (Nat×(List z0a→Option z0a))) (F:z1ka):List z0a→Option z0a:=z0cc (xGT tX l) F fuX
noncomputable def z0Td:=fX [] z0va
noncomputable def z46d:=fX [(200,z0Td)] z2sa
noncomputable def z7dd:List z0a→Option z0a:=z1Dd
noncomputable def z4sc:=fX [] z90a
noncomputable def z22c:List z0a→Option z0a:=xSh
noncomputable def z9pd:=fX [] z1d
noncomputable def x_7:=fX [(12,z9pd)] z0Oa
noncomputable def z8cd:=fX [(7,x_7)] z9Ea
noncomputable def z3Ld:=fX [(164,z8cd)] z0Ja
noncomputable def z3Vc:=fX [(164,z8cd)] z1Ia
noncomputable def z6Qd:=fX [] z2Ba
noncomputable def z5Td:=fX [] z5ya
noncomputable def z04d:=fX [(193,z6Qd),(194,z5Td)] z7Ba
noncomputable def z4Bd:=fX [(188,z04d)] z3Aa
noncomputable def z5Ud:=fX [] z5wa
noncomputable def z74d:=fX [] z4ua
noncomputable def z7Yd:=fX [(189,z5Ud),(190,z74d)] z0wa
noncomputable def z47d:=fX [(165,z22c),(166,z3Ld),(169,z3Vc),(179,z4Bd),(180,z7dd),(181,z7Yd)] z5za
noncomputable def z2Kd:=fX [] z0Ia
noncomputable def x_8:List z0a→Option z0a:=xOf
noncomputable def z7ie:=fX [(12,z9pd)] z6Qa
noncomputable def z75d:List z0a→Option z0a:=xGr 1
noncomputable def z4jd:=fX [(139,z75d)] z9Ca
noncomputable def z5Yd:=fX [(7,x_7),(12,z9pd),(39,z7ie),(129,z4jd)] z8Ba
noncomputable def z31c:List z0a→Option z0a:=fX [(7,x_7),(12,z9pd),(39,z7ie),(129,z4jd),(130,z5Yd)] z7Ea
def z7Kc:List (List z0a×z0a):=[([.agg (xE 1 1 (.sl .plain none 0 []) (.sl .plain none 0 []))],sX [129,4,129,1,128,128,129,1,129,8,128,128,128,128,128,128,128,128,0,0,0,0,0,0,0,0,0,0,0,0,0,0,0,0,128,128]),
 ([.agg (xE 1 2 (.sl .plain none 0 []) (.sl .plain none 0 []))],sX [129,4,129,1,128,128,129,2,129,8,128,128,128,128,128,128,128,128,0,0,0,0,0,0,0,0,0,0,0,0,0,0,0,0,128,128]),
 ([.agg (xE 4 1 (.sl .plain none 0 []) (.sl .plain none 0 []))],sX [129,4,129,4,128,128,129,1,129,8,128,128,128,128,128,128,128,128,0,0,0,0,0,0,0,0,0,0,0,0,0,0,0,0,128,128])]
theorem z0wd:z7Tb z31c z7Kc 0=true:=by kernel_rfl
theorem z3Cd:z7Tb z31c z7Kc 1=true:=by kernel_rfl
theorem z4Hd:z7Tb z31c z7Kc 2=true:=by kernel_rfl
noncomputable def z9yd:List z0a→Option z0a:=z5od z7Kc
noncomputable def z2Yc:List z0a→Option z0a:=fX [(8,x_8),(302,z9yd)] z8Fa
def z5Lc:List (List z0a×z0a):=[([.agg (xE 1 1 (.sl .plain none 0 []) (.sl .plain none 0 []))],.agg (bys [12,247,105,47,134,167,94,207,185,106,250,95,210,127,135,253])),
 ([.agg (xE 1 2 (.sl .plain none 0 []) (.sl .plain none 0 []))],.agg (bys [222,221,53,32,31,115,10,164,53,42,72,187,27,53,28,11])),
 ([.agg (xE 4 1 (.sl .plain none 0 []) (.sl .plain none 0 []))],.agg (bys [178,26,204,160,193,221,106,94,184,210,48,178,89,11,206,52]))]
theorem z3Ed:z7Tb z2Yc z5Lc 0=true:=by kernel_rfl
theorem z5Ed:z7Tb z2Yc z5Lc 1=true:=by kernel_rfl
theorem z8Ld:z7Tb z2Yc z5Lc 2=true:=by kernel_rfl
noncomputable def z34c:List z0a→Option z0a:=z5od z5Lc
noncomputable def z4Ad:XE:={G:=fun n=>match n with|303=>z34c|_=>fun _=>none,T:=tX}
noncomputable def z5vd:List z0a→List z0a→Option (List (List z0a)):=xDg z34c
noncomputable def z4Ed:XE:={G:=fun n=>match n with|182=>z47d|350=>z2Kd|_=>fun _=>none,T:=tX,I:=fun n=>match n with|372=>z5vd|_=>fun _ _=>none}
noncomputable def z1Kd:List z0a→Option z0a:=z0cc z4Ed z1wa fuX
noncomputable def z1Mc:=fX [(180,z7dd),(349,z4sc),(354,z1Kd)] z1Ja
noncomputable def z0Jd:XE:={G:=fun _ _=>none,T:=tX,I:=fun n=>match n with|372=>z5vd|_=>fun _ _=>none}
noncomputable def z72d:List z0a→Option z0a:=z0cc z0Jd z0qa fuX
noncomputable def z84d:=fX [(371,z72d)] z3ra
noncomputable def z4Wd:=fX [] z6Ta
noncomputable def z08d:=fX [] z8Ha
noncomputable def z7Wd:=fX [(191,z4Wd),(192,z08d)] z22a
noncomputable def z0Hd:=fX [(170,z7Wd)] z7Fa
noncomputable def z8Md (self:List z0a→Option z0a):XE:={G:=fun n=>match n with|164=>z8cd|165=>z22c|166=>z3Ld|167=>z0Hd|168=>self|169=>z3Vc|_=>fun _=>none,T:=tX}
noncomputable def z59c:Nat→List z0a→Option z0a
 |0=>fun _=>none
 |k+1=>z0cc (z8Md (z59c k)) z0ta fuX
noncomputable def z6Ad:List z0a→Option z0a:=z59c 12
noncomputable def z3xd:XE:={G:=fun _ _=>none,T:=tX}
noncomputable def z3Gd:XM:=z3Bb z3xd z6ta fuX [] [1]
noncomputable def z2zd:List z0a→List z0a→Option (List (List z0a)):=xBw
noncomputable def z0Gd:XE:={G:=fun n=>match n with|8=>x_8|_=>fun _=>none,T:=tX,M:=fun n=>match n with|183=>z3Gd|_=>⟨[],[],fun _=>none⟩,I:=fun n=>match n with|184=>z2zd|_=>fun _ _=>none}
noncomputable def z01d:List z0a→Option z0a:=z0cc z0Gd z4za fuX
noncomputable def z4Md (self:List z0a→Option z0a):XE:={G:=fun n=>match n with|168=>z6Ad|352=>self|370=>z01d|_=>fun _=>none,T:=tX}
noncomputable def z28c:Nat→List z0a→Option z0a
 |0=>fun _=>none
 |k+1=>z0cc (z4Md (z28c k)) z0ua fuX
noncomputable def z67d:List z0a→Option z0a:=z28c 12
noncomputable def z4yd:=fX [(348,z1Mc),(349,z4sc),(350,z2Kd),(351,z84d),(352,z67d)] z2Ca
noncomputable def z9rd:XE:={G:=fun n=>match n with|165=>z22c|168=>z6Ad|169=>z3Vc|179=>z4Bd|_=>fun _=>none,T:=tX,M:=fun n=>match n with|183=>z3Gd|_=>⟨[],[],fun _=>none⟩,I:=fun n=>match n with|184=>z2zd|_=>fun _ _=>none}
noncomputable def z9sd:List z0a→Option z0a:=z0cc z9rd z3ua fuX
noncomputable def z26d:=fX [(185,z9sd),(348,z1Mc),(349,z4sc)] z82a
noncomputable def z03d:=fX [] z8Ea
noncomputable def z51d:=fX [(314,z03d)] z8za
noncomputable def z6Ud:=fX [(312,z51d)] z4Fa
noncomputable def z5Rd:=fX [] z4Na
noncomputable def z0ad:=fX [] z6Aa
noncomputable def z24d:=fX [(295,z0ad)] z1Da
noncomputable def z4Zd:=fX [(296,z24d)] z2Da
noncomputable def z33d:=fX [(297,z4Zd)] z6qa
noncomputable def z10d:=fX [(313,z33d)] z1qa
noncomputable def z9Md:=fX [] z5Ca
noncomputable def z35d:=fX [(132,z9Md)] z0Fa
noncomputable def z2Yd:=fX [] z2va
noncomputable def z9Rd:=fX [(132,z9Md),(133,z35d),(301,z2Yd)] z7Na
noncomputable def z7fc:List z0a→Option z0a:=fX [(293,z6Ud),(294,z5Rd),(295,z0ad),(298,z10d),(299,z9Rd)] z3Ia
def z65b:List (List z0a×z0a):=[([.agg (xE 1 1 (.sl .plain none 0 []) (.sl .plain none 0 []))],.lit (.bool true)),
 ([.agg (xE 1 2 (.sl .plain none 0 []) (.sl .plain none 0 []))],.lit (.bool true)),
 ([.agg (xE 4 1 (.sl .plain none 0 []) (.sl .plain none 0 []))],.lit (.bool true)),
 ([.agg (xE 3 1 (.sl .plain none 0 []) (.sl .plain none 0 []))],.lit (.bool true)),
 ([.agg (xE 9 0 (.sl .plain none 0 []) (.sl .plain none 0 []))],.lit (.bool false)),
 ([.agg (xE 1 2 (.sl .plain (some true) 0 []) (.sl .plain none 0 []))],.lit (.bool true)),
 ([.agg (xE 4 1 (.sl .plain (some true) 0 []) (.sl .plain none 0 []))],.lit (.bool true))]
theorem z9xd:z7Tb z7fc z65b 0=true:=by kernel_rfl
theorem z6Cd:z7Tb z7fc z65b 1=true:=by kernel_rfl
theorem z2Cd:z7Tb z7fc z65b 2=true:=by kernel_rfl
theorem z8Gd:z7Tb z7fc z65b 3=true:=by kernel_rfl
theorem z4Nd:z7Tb z7fc z65b 4=true:=by kernel_rfl
theorem z8xd:z7Tb z7fc z65b 5=true:=by kernel_rfl
theorem z7Ed:z7Tb z7fc z65b 6=true:=by kernel_rfl
noncomputable def z08c:List z0a→Option z0a:=z5od z65b
noncomputable def z63d:=fX [] z0xa
noncomputable def z64d:=fX [(300,z08c),(349,z4sc),(356,z63d)] z3Ca
noncomputable def z0zd:List z0a→Option z0a:=z5Dd
noncomputable def z1Xd:=fX [(348,z1Mc),(358,z0zd)] z8Ra
noncomputable def z4Td:=fX [(348,z1Mc),(349,z4sc),(353,z4yd),(358,z0zd)] z5Fa
noncomputable def z7Qd:=fX [] z4eb
noncomputable def z9Ld:XE:={G:=fun _ _=>none,T:=tX}
noncomputable def z9Wd:XW:=z9hc z9Ld z4Ea fuX [0] [0]
noncomputable def z9ge:XE:={G:=fun n=>match n with|165=>z22c|167=>z0Hd|169=>z3Vc|175=>z7Qd|_=>fun _=>none,T:=tX,C:=fun n=>match n with|174=>z9Wd|_=>⟨[],[],fun _ _=>none⟩}
noncomputable def z25d:List z0a→Option z0a:=z0cc z9ge z6vb fuX
noncomputable def z3Xd:=fX [(300,z08c)] z7Jb
noncomputable def z0Ud:=fX [(361,z3Xd)] z2La
noncomputable def z95d:=fX [(373,z0Ud)] z4Ha
noncomputable def z5Zd:=fX [(176,z25d),(185,z9sd),(354,z1Kd),(362,z95d)] z5Tb
noncomputable def z71d:List z0a→Option z0a:=xGr 30
noncomputable def z2Qd:=fX [(374,z71d)] z0wb
noncomputable def z7Td:=fX [(180,z7dd),(364,z2Qd)] z0Nc
noncomputable def z0Vd:=fX [] z4fc
noncomputable def z0Sd:=fX [(45,z0Vd)] z0pc
noncomputable def z1le:=fX [(47,z0Sd)] z63b
noncomputable def x_55:=fX [(47,z0Sd),(48,z1le)] z6Nb
noncomputable def x_58:=fX [(47,z0Sd)] z7Qb
noncomputable def z7Ld:XE:={G:=fun _ _=>none,T:=tX}
noncomputable def z9wd:XM:=z3Bb z7Ld z3Ga fuX [0] []
noncomputable def z0je:XE:={G:=fun _ _=>none,T:=tX}
noncomputable def m_51:XM:=z3Bb z0je z1ab fuX [] [2,3]
noncomputable def z9ie:XE:={G:=fun n=>match n with|45=>z0Vd|_=>fun _=>none,T:=tX}
noncomputable def m_61:XM:=z3Bb z9ie z9Va fuX [0,1] []
noncomputable def e_52:XE:={G:=fun n=>match n with|47=>z0Sd|_=>fun _=>none,T:=tX,M:=fun n=>match n with|51=>m_51|61=>m_61|_=>⟨[],[],fun _=>none⟩}
noncomputable def x_52:List z0a→Option z0a:=z0cc e_52 z05b fuX
noncomputable def z6Hd:XE:={G:=fun n=>match n with|52=>x_52|_=>fun _=>none,T:=tX}
noncomputable def z1Md:XM:=z3Bb z6Hd z8Aa fuX [0] []
noncomputable def z6Id:XE:={G:=fun n=>match n with|48=>z1le|_=>fun _=>none,T:=tX}
noncomputable def z3Hd:XM:=z3Bb z6Id z6za fuX [0] []
noncomputable def z5Fd:XE:={G:=fun n=>match n with|45=>z0Vd|_=>fun _=>none,T:=tX}
noncomputable def z8rd:XM:=z3Bb z5Fd z4Ba fuX [0] []
noncomputable def z9Bd:XE:={G:=fun _ _=>none,T:=tX,M:=fun n=>match n with|316=>z9wd|323=>z1Md|324=>z3Hd|326=>z8rd|_=>⟨[],[],fun _=>none⟩}
noncomputable def z59d:XM:=z3Bb z9Bd z5Da fuX [0] []
noncomputable def z9Td:=fX [] z74b
noncomputable def z6Gd:XE:={G:=fun n=>match n with|320=>z9Td|_=>fun _=>none,T:=tX}
noncomputable def z1ae:XM:=z3Bb z6Gd z4Aa fuX [0] []
noncomputable def z1ge:XE:={G:=fun n=>match n with|295=>z0ad|300=>z08c|_=>fun _=>none,T:=tX,M:=fun n=>match n with|316=>z9wd|318=>z59d|323=>z1Md|324=>z3Hd|325=>z1ae|326=>z8rd|_=>⟨[],[],fun _=>none⟩}
noncomputable def z2jd:List z0a→Option z0a:=z0cc z1ge z75b fuX
def z24c:List (List z0a×z0a):=[([sX [129,4,129,1,128,128,129,2,129,8,128,128,128,128,128,128,128,128,0,0,0,0,0,0,0,0,0,0,0,0,0,0,0,0,128,128]],.tup [.agg (xE 1 2 (.sl .plain (some true) 0 []) (.sl .plain none 0 [])),z1Nc 0]),
 ([sX [129,4,129,4,128,128,129,1,129,8,128,128,128,128,128,128,128,128,0,0,0,0,0,0,0,0,0,0,0,0,0,0,0,0,128,128]],.tup [.agg (xE 4 1 (.sl .plain (some true) 0 []) (.sl .plain none 0 [])),z1Nc 0])]
theorem z1Fd:z7Tb z2jd z24c 0=true:=by kernel_rfl
theorem z5Md:z7Tb z2jd z24c 1=true:=by kernel_rfl
noncomputable def z87d:List z0a→Option z0a:=z5od z24c
noncomputable def z3ud:XE:={G:=fun _ _=>none,T:=tX}
noncomputable def z2Ld:XM:=z3Bb z3ud z53a fuX [1] []
noncomputable def z5Kd:XE:={G:=fun _ _=>none,T:=tX,M:=fun n=>match n with|366=>z2Ld|_=>⟨[],[],fun _=>none⟩}
noncomputable def z7Vd:XW:=z9hc z5Kd z73a fuX [2,3] [2,3,400009]
noncomputable def z6ge:XE:={G:=fun n=>match n with|45=>z0Vd|55=>x_55|58=>x_58|322=>z87d|_=>fun _=>none,T:=tX,M:=fun n=>match n with|366=>z2Ld|_=>⟨[],[],fun _=>none⟩,C:=fun n=>match n with|367=>z7Vd|_=>⟨[],[],fun _ _=>none⟩}
noncomputable def z8Xd:List z0a→Option z0a:=z0cc z6ge z9gc fuX
noncomputable def x_41:=fX [(7,x_7),(12,z9pd)] z45b
noncomputable def x_43:=fX [(12,z9pd)] z64b
noncomputable def z79d:=fX [(12,z9pd),(41,x_41),(43,x_43),(129,z4jd),(302,z9yd)] z9lc
noncomputable def x_60:=fX [] z4sa
noncomputable def x_54:=fX [] z1ua
noncomputable def z8Sd:=fX [(54,x_54)] z1ya
noncomputable def z8Yd:=fX [(149,z8Sd)] z7xa
noncomputable def z94d:=fX [(329,z8Yd)] z4qa
noncomputable def z4Qd:=fX [(60,x_60),(376,z94d)] z0ra
noncomputable def z13d:List z0a→Option z0a:=xOf
noncomputable def z7ae:=fX [] z8xa
noncomputable def z8vd:=fX [(20,z13d),(23,z7ae)] z1xa
noncomputable def z3Vd:=fX [] z3xa
noncomputable def z1td:=fX [(214,z3Vd)] z2ra
noncomputable def z82d:=fX [(20,z13d),(202,z8vd),(211,z1td)] z6ua
noncomputable def z8Fd:=fX [] z6xa
noncomputable def z8Ud:=fX [(20,z13d),(23,z7ae)] z5xa
noncomputable def z54d:=fX [(201,z8Ud),(202,z8vd),(211,z1td)] z7ua
noncomputable def z56d:=fX [] z8ya
noncomputable def z0ke:=fX [(30,z56d)] z8va
noncomputable def z3le:=fX [(30,z56d)] z4xa
noncomputable def z1Qd:=fX [(29,z0ke),(30,z56d),(40,z3le)] z4va
noncomputable def z14d:=fX [] z8sa
noncomputable def z2Ud:=fX [(23,z7ae),(29,z0ke),(30,z56d),(40,z3le),(147,z1Qd),(332,z14d)] z3va
noncomputable def z6Tc:List z0a→Option z0a:=fX [(20,z13d),(333,z2Ud)] z1va
def z2Kc:List (List z0a×z0a):=[([.agg (xE 1 1 (.sl .plain none 0 []) (.sl .plain none 0 []))],.agg (bys [12,247,105,47,134,167,94,207,185,106,250,95,210,127,135,253])),
 ([.agg (xE 1 2 (.sl .plain none 0 []) (.sl .plain none 0 []))],.agg (bys [222,221,53,32,31,115,10,164,53,42,72,187,27,53,28,11])),
 ([.agg (xE 4 1 (.sl .plain none 0 []) (.sl .plain none 0 []))],.agg (bys [178,26,204,160,193,221,106,94,184,210,48,178,89,11,206,52]))]
theorem z1Ld:z7Tb z6Tc z2Kc 0=true:=by kernel_rfl
theorem z0Ad:z7Tb z6Tc z2Kc 1=true:=by kernel_rfl
theorem z5Jd:z7Tb z6Tc z2Kc 2=true:=by kernel_rfl
noncomputable def z9Yd:List z0a→Option z0a:=z5od z2Kc
noncomputable def z07d:=fX [(334,z9Yd)] z1sa
noncomputable def z5ae:=fX [(212,z54d),(375,z8Fd),(382,z07d)] z4ra
noncomputable def z41d:=fX [(213,z82d),(375,z8Fd),(379,z5ae)] z2xa
noncomputable def z6Wd:=fX [] z1vb
noncomputable def z67c:=fX [(209,z46d),(348,z1Mc),(349,z4sc),(353,z4yd),(355,z26d),(357,z64d),(359,z1Xd),(360,z4Td),(363,z5Zd),(365,z7Td),(368,z8Xd),(369,z79d),(377,z4Qd),(386,z41d),(396,z6Wd)] z9vb
theorem z3ie:(match z67c [] with|some (.lit (.bool b))=>b|_=>false)=true:=by kernel_rfl
end Go.Abs
end
