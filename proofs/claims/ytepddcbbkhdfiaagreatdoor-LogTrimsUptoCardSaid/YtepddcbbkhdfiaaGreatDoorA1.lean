/- Lemmas: an abstract interpreter, and what the functions compute. -/
import Derived.Test.YtepddcbbkhdfiaaGreatDoorZ
import Derived.Test.YtepddcbbkhdfiaaGreatDoorH
import Derived.Test.YtepddcbbkhdfiaaGreatDoorX
import Derived.Test.YtepddcbbkhdfiaaGreatDoorY
import Derived.Test.YtepddcbbkhdfiaaGreatDoorS
import Derived.Test.YtepddcbbkhdfiaaGreatDoorJ
import Derived.Test.YtepddcbbkhdfiaaGreatDoorK
import Derived.Test.YtepddcbbkhdfiaaGreatDoorL
import Derived.Test.YtepddcbbkhdfiaaGreatDoorR
import Derived.Test.YtepddcbbkhdfiaaGreatDoorV
import Derived.Test.YtepddcbbkhdfiaaGreatDoorM
import Derived.Test.YtepddcbbkhdfiaaGreatDoorN
import Derived.Test.YtepddcbbkhdfiaaGreatDoorU
import Derived.Test.YtepddcbbkhdfiaaGreatDoorO
import Derived.Test.YtepddcbbkhdfiaaGreatDoorQ
import Derived.Test.YtepddcbbkhdfiaaGreatDoorT
set_option linter.unusedSimpArgs false
set_option linter.unusedVariables false
set_option linter.unusedSectionVars false
section
namespace Go.Abs
set_option maxRecDepth 100000
def dbX:List UInt8:=[0,1,56,2,57,49,28,3,61,58,42,50,38,29,17,4,62,47,59,36,45,43,51,22,53,39,33,30,24,18,12,5,63,55,48,27,60,41,37,16,46,35,44,21,52,32,23,11,54,26,40,15,34,20,31,10,25,14,19,9,13,8,7,6]
def z7be:List UInt8:=[0,1,28,2,29,14,24,3,30,22,20,15,25,17,4,8,31,27,13,23,21,19,16,7,26,12,18,6,11,5,10,9]
def tX:Nat→List z0a:=fun n=>match n with|0=>z7g kc|1=>z7g kc|3=>bys dbX|4=>bys z7be|_=>[]
def fuX:Nat:=400
noncomputable def fX (l:List (Nat×(List z0a→Option z0a))) (F:z1ka):List z0a→Option z0a:=z64b (xGT tX l) F fuX
noncomputable def z2Kd:=fX [] z4yb
noncomputable def z3Xd:=fX [(200,z2Kd)] z5jb
noncomputable def z16c:List z0a→Option z0a:=z0vd
noncomputable def z0mc:=fX [] z7Ta
noncomputable def z3Vc:List z0a→Option z0a:=xSh
noncomputable def z4id:=fX [] z1d
noncomputable def x_7:=fX [(12,z4id)] z5Ja
noncomputable def z35c:=fX [(7,x_7)] z3Ca
noncomputable def z5Cd:=fX [(164,z35c)] z7Fa
noncomputable def z7Oc:=fX [(164,z35c)] z9Ea
noncomputable def z1Id:=fX [] z5ya
noncomputable def z6Kd:=fX [] z1wa
noncomputable def z9Ud:=fX [(193,z1Id),(194,z6Kd)] z0za
noncomputable def z3td:=fX [(188,z9Ud)] z0ya
noncomputable def z6Ld:=fX [] z6ua
noncomputable def z6Vd:=fX [] z2ta
noncomputable def z8Pd:=fX [(189,z6Ld),(190,z6Vd)] z3ua
noncomputable def z3Yd:=fX [(165,z3Vc),(166,z5Cd),(169,z7Oc),(179,z3td),(180,z16c),(181,z8Pd)] z0xa
noncomputable def z5Bd:=fX [] z8Ea
noncomputable def x_8:List z0a→Option z0a:=xOf
noncomputable def z59d:=fX [(12,z4id)] z7La
noncomputable def z6Wd:List z0a→Option z0a:=xGr 1
noncomputable def z4bd:=fX [(139,z6Wd)] z3Aa
noncomputable def z6Pd:=fX [(7,x_7),(12,z4id),(39,z59d),(129,z4bd)] z1za
noncomputable def z3Uc:List z0a→Option z0a:=fX [(7,x_7),(12,z4id),(39,z59d),(129,z4bd),(130,z6Pd)] z1Ca
def z8Dc:List (List z0a×z0a):=[([.agg (xE 1 1 (.sl .plain none 0 []) (.sl .plain none 0 []))],sX [129,4,129,1,128,128,129,1,129,8,128,128,128,128,128,128,128,128,0,0,0,0,0,0,0,0,0,0,0,0,0,0,0,0,128,128]),
 ([.agg (xE 1 2 (.sl .plain none 0 []) (.sl .plain none 0 []))],sX [129,4,129,1,128,128,129,2,129,8,128,128,128,128,128,128,128,128,0,0,0,0,0,0,0,0,0,0,0,0,0,0,0,0,128,128]),
 ([.agg (xE 4 1 (.sl .plain none 0 []) (.sl .plain none 0 []))],sX [129,4,129,4,128,128,129,1,129,8,128,128,128,128,128,128,128,128,0,0,0,0,0,0,0,0,0,0,0,0,0,0,0,0,128,128])]
theorem z1od:z9Mb z3Uc z8Dc 0=true:=by kernel_rfl
theorem z2ud:z9Mb z3Uc z8Dc 1=true:=by kernel_rfl
theorem z9yd:z9Mb z3Uc z8Dc 2=true:=by kernel_rfl
noncomputable def z1rd:List z0a→Option z0a:=z8gd z8Dc
noncomputable def z3Rc:List z0a→Option z0a:=fX [(8,x_8),(302,z1rd)] z0Da
def z7Ec:List (List z0a×z0a):=[([.agg (xE 1 1 (.sl .plain none 0 []) (.sl .plain none 0 []))],.agg (bys [12,247,105,47,134,167,94,207,185,106,250,95,210,127,135,253])),
 ([.agg (xE 1 2 (.sl .plain none 0 []) (.sl .plain none 0 []))],.agg (bys [222,221,53,32,31,115,10,164,53,42,72,187,27,53,28,11])),
 ([.agg (xE 4 1 (.sl .plain none 0 []) (.sl .plain none 0 []))],.agg (bys [178,26,204,160,193,221,106,94,184,210,48,178,89,11,206,52]))]
theorem z2wd:z9Mb z3Rc z7Ec 0=true:=by kernel_rfl
theorem z4wd:z9Mb z3Rc z7Ec 1=true:=by kernel_rfl
theorem z0Dd:z9Mb z3Rc z7Ec 2=true:=by kernel_rfl
noncomputable def z3Xc:List z0a→Option z0a:=z8gd z7Ec
noncomputable def z4sd:XE:={G:=fun n=>match n with|303=>z3Xc|_=>fun _=>none,T:=tX}
noncomputable def z6nd:List z0a→List z0a→Option (List (List z0a)):=xDg z3Xc
noncomputable def z3wd:XE:={G:=fun n=>match n with|182=>z3Yd|350=>z5Bd|_=>fun _=>none,T:=tX,I:=fun n=>match n with|372=>z6nd|_=>fun _ _=>none}
noncomputable def z4Bd:List z0a→Option z0a:=z64b z3wd z4ua fuX
noncomputable def z3Fc:=fX [(180,z16c),(349,z0mc),(354,z4Bd)] z8Fa
noncomputable def z3Ad:XE:={G:=fun _ _=>none,T:=tX,I:=fun n=>match n with|372=>z6nd|_=>fun _ _=>none}
noncomputable def z6Td:List z0a→Option z0a:=z64b z3Ad z9pa fuX
noncomputable def z7Vd:=fX [(371,z6Td)] z3ra
noncomputable def z5Nd:=fX [] z1Oa
noncomputable def z9Yd:=fX [] z6Ea
noncomputable def z8Nd:=fX [(191,z5Nd),(192,z9Yd)] z0Va
noncomputable def z5yd:=fX [(170,z8Nd)] z9Ca
noncomputable def z0Ed (self:List z0a→Option z0a):XE:={G:=fun n=>match n with|164=>z35c|165=>z3Vc|166=>z5Cd|167=>z5yd|168=>self|169=>z7Oc|_=>fun _=>none,T:=tX}
noncomputable def z81c:Nat→List z0a→Option z0a
 |0=>fun _=>none
 |k+1=>z64b (z0Ed (z81c k)) z1sa fuX
noncomputable def z6sd:List z0a→Option z0a:=z81c 12
noncomputable def z3pd:XE:={G:=fun _ _=>none,T:=tX}
noncomputable def z7xd:XM:=z9ub z3pd z4sa fuX [] [1]
noncomputable def z4rd:List z0a→List z0a→Option (List (List z0a)):=xBw
noncomputable def z5xd:XE:={G:=fun n=>match n with|8=>x_8|_=>fun _=>none,T:=tX,M:=fun n=>match n with|183=>z7xd|_=>⟨[],[],fun _=>none⟩,I:=fun n=>match n with|184=>z4rd|_=>fun _ _=>none}
noncomputable def z9Rd:List z0a→Option z0a:=z64b z5xd z9wa fuX
noncomputable def z6Dd (self:List z0a→Option z0a):XE:={G:=fun n=>match n with|168=>z6sd|352=>self|370=>z9Rd|_=>fun _=>none,T:=tX}
noncomputable def z70c:Nat→List z0a→Option z0a
 |0=>fun _=>none
 |k+1=>z64b (z6Dd (z70c k)) z9sa fuX
noncomputable def z5Yd:List z0a→Option z0a:=z70c 12
noncomputable def z6qd:=fX [(348,z3Fc),(349,z0mc),(350,z5Bd),(351,z7Vd),(352,z5Yd)] z4za
noncomputable def z1kd:XE:={G:=fun n=>match n with|165=>z3Vc|168=>z6sd|169=>z7Oc|179=>z3td|_=>fun _=>none,T:=tX,M:=fun n=>match n with|183=>z7xd|_=>⟨[],[],fun _=>none⟩,I:=fun n=>match n with|184=>z4rd|_=>fun _ _=>none}
noncomputable def z1ld:List z0a→Option z0a:=z64b z1kd z1ta fuX
noncomputable def z1Xd:=fX [(185,z1ld),(348,z3Fc),(349,z0mc)] z6Va
noncomputable def z9Td:=fX [] z2Ca
noncomputable def z4Sd:=fX [(314,z9Td)] z6xa
noncomputable def z7Ld:=fX [(312,z4Sd)] z6Ca
noncomputable def z9Id:=fX [] z0Ja
noncomputable def z52c:=fX [] z2ya
noncomputable def z1Vd:=fX [(295,z52c)] z5Aa
noncomputable def z5Qd:=fX [(296,z1Vd)] z6Aa
noncomputable def z2Ud:=fX [(297,z5Qd)] z6qa
noncomputable def z1Rd:=fX [(313,z2Ud)] z1qa
noncomputable def z1Ed:=fX [] z9za
noncomputable def z2Wd:=fX [(132,z1Ed)] z4Ca
noncomputable def z3Pd:=fX [] z4ta
noncomputable def z3Jd:=fX [(132,z1Ed),(133,z2Wd),(301,z3Pd)] z2Ja
noncomputable def z08b:List z0a→Option z0a:=fX [(293,z7Ld),(294,z9Id),(295,z52c),(298,z1Rd),(299,z3Jd)] z1Fa
def z8Yb:List (List z0a×z0a):=[([.agg (xE 1 1 (.sl .plain none 0 []) (.sl .plain none 0 []))],.lit (.bool true)),
 ([.agg (xE 1 2 (.sl .plain none 0 []) (.sl .plain none 0 []))],.lit (.bool true)),
 ([.agg (xE 4 1 (.sl .plain none 0 []) (.sl .plain none 0 []))],.lit (.bool true)),
 ([.agg (xE 3 1 (.sl .plain none 0 []) (.sl .plain none 0 []))],.lit (.bool true)),
 ([.agg (xE 9 0 (.sl .plain none 0 []) (.sl .plain none 0 []))],.lit (.bool false)),
 ([.agg (xE 1 2 (.sl .plain (some true) 0 []) (.sl .plain none 0 []))],.lit (.bool true)),
 ([.agg (xE 4 1 (.sl .plain (some true) 0 []) (.sl .plain none 0 []))],.lit (.bool true))]
theorem z1qd:z9Mb z08b z8Yb 0=true:=by kernel_rfl
theorem z5ud:z9Mb z08b z8Yb 1=true:=by kernel_rfl
theorem z1ud:z9Mb z08b z8Yb 2=true:=by kernel_rfl
theorem z3yd:z9Mb z08b z8Yb 3=true:=by kernel_rfl
theorem z9Ed:z9Mb z08b z8Yb 4=true:=by kernel_rfl
theorem z9pd:z9Mb z08b z8Yb 5=true:=by kernel_rfl
theorem z6wd:z9Mb z08b z8Yb 6=true:=by kernel_rfl
noncomputable def z40c:List z0a→Option z0a:=z8gd z8Yb
noncomputable def z5Ud:=fX [] z2va
noncomputable def z5Vd:=fX [(300,z40c),(349,z0mc),(356,z5Ud)] z6za
noncomputable def z2rd:List z0a→Option z0a:=z4vd
noncomputable def z2Od:=fX [(348,z3Fc),(358,z2rd)] z8Ma
noncomputable def z5Kd:=fX [(348,z3Fc),(349,z0mc),(353,z6qd),(358,z2rd)] z7Ca
noncomputable def z2Id:=fX [] z75a
noncomputable def z1Dd:XE:={G:=fun _ _=>none,T:=tX}
noncomputable def z0Od:XW:=z5ac z1Dd z8Ba fuX [0] [0]
noncomputable def z77d:XE:={G:=fun n=>match n with|165=>z3Vc|167=>z5yd|169=>z7Oc|175=>z2Id|_=>fun _=>none,T:=tX,C:=fun n=>match n with|174=>z0Od|_=>⟨[],[],fun _ _=>none⟩}
noncomputable def z1Wd:List z0a→Option z0a:=z64b z77d z5ob fuX
noncomputable def z4Od:=fX [(300,z40c)] z6Db
noncomputable def z1Ld:=fX [(361,z4Od)] z7Ha
noncomputable def z8Wd:=fX [(373,z1Ld)] z1Ea
noncomputable def z6Qd:=fX [(176,z1Wd),(185,z1ld),(354,z4Bd),(362,z8Wd)] z7Mb
noncomputable def z6Sd:List z0a→Option z0a:=xGr 30
noncomputable def z7Hd:=fX [(374,z6Sd)] z9ob
noncomputable def z8Kd:=fX [(180,z16c),(364,z7Hd)] z2Gc
noncomputable def z1Md:=fX [] z77b
noncomputable def z4Jd:=fX [(45,z1Md)] z9hc
noncomputable def z8be:=fX [(47,z4Jd)] z3Xb
noncomputable def x_55:=fX [(47,z4Jd),(48,z8be)] z5Hb
noncomputable def x_58:=fX [(47,z4Jd)] z4Kb
noncomputable def z9Cd:XE:={G:=fun _ _=>none,T:=tX}
noncomputable def z9od:XM:=z9ub z9Cd z3Da fuX [0] []
noncomputable def z89d:XE:={G:=fun _ _=>none,T:=tX}
noncomputable def m_51:XM:=z9ub z89d z61a fuX [] [2,3]
noncomputable def z79d:XE:={G:=fun n=>match n with|45=>z1Md|_=>fun _=>none,T:=tX}
noncomputable def m_61:XM:=z9ub z79d z0Qa fuX [0,1] []
noncomputable def e_52:XE:={G:=fun n=>match n with|47=>z4Jd|_=>fun _=>none,T:=tX,M:=fun n=>match n with|51=>m_51|61=>m_61|_=>⟨[],[],fun _=>none⟩}
noncomputable def x_52:List z0a→Option z0a:=z64b e_52 z1Yb fuX
noncomputable def z1zd:XE:={G:=fun n=>match n with|52=>x_52|_=>fun _=>none,T:=tX}
noncomputable def z3Dd:XM:=z9ub z1zd z3ya fuX [0] []
noncomputable def z9zd:XE:={G:=fun n=>match n with|48=>z8be|_=>fun _=>none,T:=tX}
noncomputable def z8yd:XM:=z9ub z9zd z2xa fuX [0] []
noncomputable def z1xd:XE:={G:=fun n=>match n with|45=>z1Md|_=>fun _=>none,T:=tX}
noncomputable def z0kd:XM:=z9ub z1xd z7ya fuX [0] []
noncomputable def z9td:XE:={G:=fun _ _=>none,T:=tX,M:=fun n=>match n with|316=>z9od|323=>z3Dd|324=>z8yd|326=>z0kd|_=>⟨[],[],fun _=>none⟩}
noncomputable def z30d:XM:=z9ub z9td z1Ba fuX [0] []
noncomputable def z0Ld:=fX [] z8Xb
noncomputable def z1yd:XE:={G:=fun n=>match n with|320=>z0Ld|_=>fun _=>none,T:=tX}
noncomputable def z90d:XM:=z9ub z1yd z1ya fuX [0] []
noncomputable def z86d:XE:={G:=fun n=>match n with|295=>z52c|300=>z40c|_=>fun _=>none,T:=tX,M:=fun n=>match n with|316=>z9od|318=>z30d|323=>z3Dd|324=>z8yd|325=>z90d|326=>z0kd|_=>⟨[],[],fun _=>none⟩}
noncomputable def z2bd:List z0a→Option z0a:=z64b z86d z9Yb fuX
def z2Xc:List (List z0a×z0a):=[([sX [129,4,129,1,128,128,129,2,129,8,128,128,128,128,128,128,128,128,0,0,0,0,0,0,0,0,0,0,0,0,0,0,0,0,128,128]],.tup [.agg (xE 1 2 (.sl .plain (some true) 0 []) (.sl .plain none 0 [])),z4Gc 0]),
 ([sX [129,4,129,4,128,128,129,1,129,8,128,128,128,128,128,128,128,128,0,0,0,0,0,0,0,0,0,0,0,0,0,0,0,0,128,128]],.tup [.agg (xE 4 1 (.sl .plain (some true) 0 []) (.sl .plain none 0 [])),z4Gc 0])]
theorem z9wd:z9Mb z2bd z2Xc 0=true:=by kernel_rfl
theorem z7Dd:z9Mb z2bd z2Xc 1=true:=by kernel_rfl
noncomputable def z7Yd:List z0a→Option z0a:=z8gd z2Xc
noncomputable def z4md:XE:={G:=fun _ _=>none,T:=tX}
noncomputable def z4Cd:XM:=z9ub z4md z2Wa fuX [1] []
noncomputable def z7Bd:XE:={G:=fun _ _=>none,T:=tX,M:=fun n=>match n with|366=>z4Cd|_=>⟨[],[],fun _=>none⟩}
noncomputable def z8Md:XW:=z5ac z7Bd z3Wa fuX [2,3] [2,3,400009]
noncomputable def z37d:XE:={G:=fun n=>match n with|45=>z1Md|55=>x_55|58=>x_58|322=>z7Yd|_=>fun _=>none,T:=tX,M:=fun n=>match n with|366=>z4Cd|_=>⟨[],[],fun _=>none⟩,C:=fun n=>match n with|367=>z8Md|_=>⟨[],[],fun _ _=>none⟩}
noncomputable def z9Od:List z0a→Option z0a:=z64b z37d z39b fuX
noncomputable def x_41:=fX [(7,x_7),(12,z4id)] z6Yb
noncomputable def x_43:=fX [(12,z4id)] z7Xb
noncomputable def z50d:=fX [(12,z4id),(41,x_41),(43,x_43),(129,z4bd),(302,z1rd)] z6ec
noncomputable def x_60:=fX [] z9ra
noncomputable def x_54:=fX [] z0ta
noncomputable def z0Kd:=fX [(54,x_54)] z7va
noncomputable def z9Pd:=fX [(149,z0Kd)] z5va
noncomputable def z8Vd:=fX [(329,z9Pd)] z4qa
noncomputable def z9Hd:=fX [(60,x_60),(376,z8Vd)] z0ra
noncomputable def z0Ud:List z0a→Option z0a:=xOf
noncomputable def z41d:=fX [] z1zb
noncomputable def z9nd:=fX [(20,z0Ud),(23,z41d)] z8xb
noncomputable def z4Md:=fX [] z3va
noncomputable def z3ld:=fX [(214,z4Md)] z2ra
noncomputable def z7Td:=fX [(20,z0Ud),(202,z9nd),(211,z3ld)] z0Cb
noncomputable def z4xd:=fX [] z4va
noncomputable def z9Ld:=fX [(20,z0Ud),(23,z41d)] z9yb
noncomputable def z4Vd:=fX [(201,z9Ld),(202,z9nd),(211,z3ld)] z5Cb
noncomputable def z4Xd:=fX [] z4wa
noncomputable def z8ae:=fX [(30,z4Xd)] z1ua
noncomputable def z0ce:=fX [(30,z4Xd)] z5yb
noncomputable def z6Hd:=fX [(29,z8ae),(30,z4Xd),(40,z0ce)] z2tb
noncomputable def z0Vd:=fX [] z4nb
noncomputable def z3Ld:=fX [(23,z41d),(29,z8ae),(30,z4Xd),(40,z0ce),(147,z6Hd),(332,z0Vd)] z6rb
noncomputable def z8Mc:List z0a→Option z0a:=fX [(20,z0Ud),(333,z3Ld)] z7pb
def z3Dc:List (List z0a×z0a):=[([.agg (xE 1 1 (.sl .plain none 0 []) (.sl .plain none 0 []))],.agg (bys [12,247,105,47,134,167,94,207,185,106,250,95,210,127,135,253])),
 ([.agg (xE 1 2 (.sl .plain none 0 []) (.sl .plain none 0 []))],.agg (bys [222,221,53,32,31,115,10,164,53,42,72,187,27,53,28,11])),
 ([.agg (xE 4 1 (.sl .plain none 0 []) (.sl .plain none 0 []))],.agg (bys [178,26,204,160,193,221,106,94,184,210,48,178,89,11,206,52]))]
theorem z3Cd:z9Mb z8Mc z3Dc 0=true:=by kernel_rfl
theorem z0sd:z9Mb z8Mc z3Dc 1=true:=by kernel_rfl
theorem z8Ad:z9Mb z8Mc z3Dc 2=true:=by kernel_rfl
noncomputable def z0Qd:List z0a→Option z0a:=z8gd z3Dc
noncomputable def z9Xd:=fX [(334,z0Qd)] z8nb
noncomputable def z21d:=fX [(212,z4Vd),(375,z4xd),(382,z9Xd)] z2vb
noncomputable def z3Sd:=fX [(213,z7Td),(375,z4xd),(379,z21d)] z0yb
noncomputable def z7Nd:=fX [] z6nb
noncomputable def z20c:=fX [(209,z3Xd),(348,z3Fc),(349,z0mc),(353,z6qd),(355,z1Xd),(357,z5Vd),(359,z2Od),(360,z5Kd),(363,z6Qd),(365,z8Kd),(368,z9Od),(369,z50d),(377,z9Hd),(386,z3Sd),(396,z7Nd)] z8ob
theorem z19d:(match z20c [] with|some (.lit (.bool b))=>b|_=>false)=true:=by kernel_rfl
end Go.Abs
end
