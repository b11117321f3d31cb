/- Lemmas. -/
import Derived.Test.YtiehmnjjlbndlaaGreatDoorC1
import Derived.Test.YtiehmnjjlbndlaaGreatDoorA1
import Derived.Test.YtiehmnjjlbndlaaGreatDoorB1
noncomputable section
set_option linter.all false
namespace Go.Abs
set_option maxRecDepth 100000
def dbX:List UInt8:=[0,1,56,2,57,49,28,3,61,58,42,50,38,29,17,4,62,47,59,36,45,43,51,22,53,39,33,30,24,18,12,5,63,55,48,27,60,41,37,16,46,35,44,21,52,32,23,11,54,26,40,15,34,20,31,10,25,14,19,9,13,8,7,6]
def z7ya:List UInt8:=[0,1,28,2,29,14,24,3,30,22,20,15,25,17,4,8,31,27,13,23,21,19,16,7,26,12,18,6,11,5,10,9]
def tX:Nat->List oH:=λn=>match n with|0=>bg kc|1=>bg kc|3=>bys dbX|4=>bys z7ya|_=>[]
def fuX:Nat:=400
def fX(l:List (Nat×(List oH->Option oH)))(F:nH):List oH->Option oH:=Ma (xGT tX l) F fuX
def z8Y:=fX [] FH
def z8fa:=fX [(200,z8Y)] C2
def ZQ:List oH->Option oH:=z2E
def Pv:=fX [] yb
def Wn:List oH->Option oH:=xSh
def z3p:=fX [] aH
def x_7:=fX [(12,z3p)] uT
def ZD:=fX [(7,x_7)] sW
def z1O:=fX [(164,ZD)] ua
def U9:=fX [(164,ZD)] tV
def z8V:=fX [] rS
def z4Z:=fX [] qZ
def z5ca:=fX [(193,z8V),(194,z4Z)] rY
def z6B:=fX [(188,z5ca)] rF
def z30:=fX [] qD
def z6da:=fX [] pX
def z95:=fX [(189,z30),(190,z6da)] qu
def z2ha:=fX [(165,Wn),(166,z1O),(169,U9),(179,z6B),(180,ZQ),(181,z95)] rm
def z9M:=fX [] tU
def x_8:List oH->Option oH:=xOf
def z7va:=fX [(12,z3p)] vI
def z9ea:List oH->Option oH:=xGr 1
def z9e:=fX [(139,z9ea)] sA
def z55:=fX [(7,x_7),(12,z3p),(39,z7va),(129,z9e)] sc
def Wa:List oH->Option oH:=fX [(7,x_7),(12,z3p),(39,z7va),(129,z9e),(130,z55)] sU
def Te:List (List oH×oH):=[([.agg (xE 1 1 (.sl .plain none 0 []) (.sl .plain none 0 []))],sX [129,4,129,1,128,128,129,1,129,8,128,128,128,128,128,128,128,128,0,0,0,0,0,0,0,0,0,0,0,0,0,0,0,0,128,128]),
 ([.agg (xE 1 2 (.sl .plain none 0 []) (.sl .plain none 0 []))],sX [129,4,129,1,128,128,129,2,129,8,128,128,128,128,128,128,128,128,0,0,0,0,0,0,0,0,0,0,0,0,0,0,0,0,128,128]),
 ([.agg (xE 4 1 (.sl .plain none 0 []) (.sl .plain none 0 []))],sX [129,4,129,4,128,128,129,1,129,8,128,128,128,128,128,128,128,128,0,0,0,0,0,0,0,0,0,0,0,0,0,0,0,0,128,128])]
theorem z6v:Ir Wa Te 0=true:=by kernel_rfl
theorem z9C:Ir Wa Te 1=true:=by kernel_rfl
theorem z7J:Ir Wa Te 2=true:=by kernel_rfl
def z3z:List oH->Option oH:=z8n Te
def Vw:List oH->Option oH:=fX [(8,x_8),(302,z3z)] te
def Tl:List (List oH×oH):=[([.agg (xE 1 1 (.sl .plain none 0 []) (.sl .plain none 0 []))],.agg (bys [12,247,105,47,134,167,94,207,185,106,250,95,210,127,135,253])),
 ([.agg (xE 1 2 (.sl .plain none 0 []) (.sl .plain none 0 []))],.agg (bys [222,221,53,32,31,115,10,164,53,42,72,187,27,53,28,11])),
 ([.agg (xE 4 1 (.sl .plain none 0 []) (.sl .plain none 0 []))],.agg (bys [178,26,204,160,193,221,106,94,184,210,48,178,89,11,206,52]))]
theorem z9F:Ir Vw Tl 0=true:=by kernel_rfl
theorem z1G:Ir Vw Tl 1=true:=by kernel_rfl
theorem z9O:Ir Vw Tl 2=true:=by kernel_rfl
def WP:List oH->Option oH:=z8n Tl
def z5A:XE:={G:=λn=>match n with|303=>WP|_=>λ_=>none,T:=tX}
def z8u:List oH->List oH->Option (List (List oH)):=xDg WP
def z0G:XE:={G:=λn=>match n with|182=>z2ha|350=>z9M|_=>λ_=>none,T:=tX,I:=λn=>match n with|372=>z8u|_=>λ_ _=>none}
def z6M:List oH->Option oH:=Ma z0G pi fuX
def Tt:=fX [(180,ZQ),(349,Pv),(354,z6M)] ub
def z5L:XE:={G:=λ_ _=>none,T:=tX,I:=λn=>match n with|372=>z8u|_=>λ_ _=>none}
def z1ba:List oH->Option oH:=Ma z5L pI fuX
def z8da:=fX [(371,z1ba)] zi
def z72:=fX [] wA
def z0ia:=fX [] tS
def z13:=fX [(191,z72),(192,z0ia)] yu
def z3J:=fX [(170,z13)] tc
def z1Q(self:List oH->Option oH):XE:={G:=λn=>match n with|164=>ZD|165=>Wn|166=>z1O|167=>z3J|168=>self|169=>U9|_=>λ_=>none,T:=tX}
def XZ:Nat->List oH->Option oH
 |0=>λ_=>none
 |k+1=>Ma (z1Q (XZ k)) pK fuX
def z7A:List oH->Option oH:=XZ 12
def z2x:XE:={G:=λ_ _=>none,T:=tX}
def z9H:XM:=Fd z2x pP fuX [] [1]
def z7z:List oH->List oH->Option (List (List oH)):=xBw
def z6H:XE:={G:=λn=>match n with|8=>x_8|_=>λ_=>none,T:=tX,M:=λn=>match n with|183=>z9H|_=>⟨[],[],λ_=>none⟩,I:=λn=>match n with|184=>z7z|_=>λ_ _=>none}
def z09:List oH->Option oH:=Ma z6H CZ fuX
def z7P(self:List oH->Option oH):XE:={G:=λn=>match n with|168=>z7A|352=>self|370=>z09|_=>λ_=>none,T:=tX}
def XG:Nat->List oH->Option oH
 |0=>λ_=>none
 |k+1=>Ma (z7P (XG k)) yr fuX
def z6ha:List oH->Option oH:=XG 12
def z7y:=fX [(348,Tt),(349,Pv),(350,z9M),(351,z8da),(352,z6ha)] Mz
def z0r:XE:={G:=λn=>match n with|165=>Wn|168=>z7A|169=>U9|179=>z6B|_=>λ_=>none,T:=tX,M:=λn=>match n with|183=>z9H|_=>⟨[],[],λ_=>none⟩,I:=λn=>match n with|184=>z7z|_=>λ_ _=>none}
def z2s:List oH->Option oH:=Ma z0r pW fuX
def z5fa:=fX [(185,z2s),(348,Tt),(349,Pv)] yC
def z4ba:=fX [] sV
def z89:=fX [(314,z4ba)] rA
def z50:=fX [(312,z89)] s8
def z0X:=fX [] uP
def X6:=fX [] rI
def z7ca:=fX [(295,X6)] sB
def z07:=fX [(296,z7ca)] sC
def z9ba:=fX [(297,z07)] oY
def z97:=fX [(313,z9ba)] oT
def z2Q:=fX [] sq
def z4ea:=fX [(132,z2Q)] sY
def z05:=fX [] qi
def z4X:=fX [(132,z2Q),(133,z4ea),(301,z05)] uR
def M0:List oH->Option oH:=fX [(293,z50),(294,z0X),(295,X6),(298,z97),(299,z4X)] tW
def KQ:List (List oH×oH):=[([.agg (xE 1 1 (.sl .plain none 0 []) (.sl .plain none 0 []))],.lit (.bool true)),
 ([.agg (xE 1 2 (.sl .plain none 0 []) (.sl .plain none 0 []))],.lit (.bool true)),
 ([.agg (xE 4 1 (.sl .plain none 0 []) (.sl .plain none 0 []))],.lit (.bool true)),
 ([.agg (xE 3 1 (.sl .plain none 0 []) (.sl .plain none 0 []))],.lit (.bool true)),
 ([.agg (xE 9 0 (.sl .plain none 0 []) (.sl .plain none 0 []))],.lit (.bool false)),
 ([.agg (xE 1 2 (.sl .plain (some true) 0 []) (.sl .plain none 0 []))],.lit (.bool true)),
 ([.agg (xE 4 1 (.sl .plain (some true) 0 []) (.sl .plain none 0 []))],.lit (.bool true))]
theorem z0y:Ir M0 KQ 0=true:=by kernel_rfl
theorem z4D:Ir M0 KQ 1=true:=by kernel_rfl
theorem z6C:Ir M0 KQ 2=true:=by kernel_rfl
theorem z8I:Ir M0 KQ 3=true:=by kernel_rfl
theorem z9Q:Ir M0 KQ 4=true:=by kernel_rfl
theorem z8x:Ir M0 KQ 5=true:=by kernel_rfl
theorem z3G:Ir M0 KQ 6=true:=by kernel_rfl
def XD:List oH->Option oH:=z8n KQ
def z1ca:=fX [] FB
def z4da:=fX [(300,XD),(349,Pv),(356,z1ca)] NJ
def z4z:List oH->Option oH:=z7E
def z63:=fX [(348,Tt),(358,z4z)] SW
def z3Z:=fX [(348,Tt),(349,Pv),(353,z7y),(358,z4z)] Qq
def z9V:=fX [] po
def z0P:XE:={G:=λ_ _=>none,T:=tX}
def z33:XW:=Ns z0P ph fuX [0] [0]
def z9sa:XE:={G:=λn=>match n with|165=>Wn|167=>z3J|169=>U9|175=>z9V|_=>λ_=>none,T:=tX,C:=λn=>match n with|174=>z33|_=>⟨[],[],λ_ _=>none⟩}
def z3ea:List oH->Option oH:=Ma z9sa pF fuX
def z93:=fX [(300,XD)] rc
def z00:=fX [(361,z93)] oL
def z1fa:=fX [(373,z00)] oQ
def z27:=fX [(176,z3ea),(185,z2s),(354,z6M),(362,z1fa)] o8
def z99:List oH->Option oH:=xGr 30
def z3V:=fX [(374,z99)] D4
def z7Z:=fX [(180,ZQ),(364,z3V)] TA
def z90:=fX [] MX
def z5X:=fX [(45,z90)] OR
def z8ya:=fX [(47,z5X)] Kk
def x_55:=fX [(47,z5X),(48,z8ya)] Ht
def x_58:=fX [(47,z5X)] HV
def z5O:XE:={G:=λ_ _=>none,T:=tX}
def z9w:XM:=Fd z5O tf fuX [0] []
def z0wa:XE:={G:=λ_ _=>none,T:=tX}
def m_51:XM:=Fd z0wa Af fuX [] [2,3]
def z9va:XE:={G:=λn=>match n with|45=>z90|_=>λ_=>none,T:=tX}
def m_61:XM:=Fd z9va w9 fuX [0,1] []
def e_52:XE:={G:=λn=>match n with|47=>z5X|_=>λ_=>none,T:=tX,M:=λn=>match n with|51=>m_51|61=>m_61|_=>⟨[],[],λ_=>none⟩}
def x_52:List oH->Option oH:=Ma e_52 KF fuX
def z1K:XE:={G:=λn=>match n with|52=>x_52|_=>λ_=>none,T:=tX}
def z2P:XM:=Fd z1K rK fuX [0] []
def z2L:XE:={G:=λn=>match n with|48=>z8ya|_=>λ_=>none,T:=tX}
def z6J:XM:=Fd z2L rr fuX [0] []
def z2H:XE:={G:=λn=>match n with|45=>z90|_=>λ_=>none,T:=tX}
def z9q:XM:=Fd z2H rV fuX [0] []
def z4C:XE:={G:=λ_ _=>none,T:=tX,M:=λn=>match n with|316=>z9w|323=>z2P|324=>z6J|326=>z9q|_=>⟨[],[],λ_=>none⟩}
def z6ja:XM:=Fd z4C sE fuX [0] []
def z9Z:=fX [] KB
def z3I:XE:={G:=λn=>match n with|320=>z9Z|_=>λ_=>none,T:=tX}
def z1ka:XM:=Fd z3I rH fuX [0] []
def z6ra:XE:={G:=λn=>match n with|295=>X6|300=>XD|_=>λ_=>none,T:=tX,M:=λn=>match n with|316=>z9w|318=>z6ja|323=>z2P|324=>z6J|325=>z1ka|326=>z9q|_=>⟨[],[],λ_=>none⟩}
def z7e:List oH->Option oH:=Ma z6ra KR fuX
def WN:List (List oH×oH):=[([sX [129,4,129,1,128,128,129,2,129,8,128,128,128,128,128,128,128,128,0,0,0,0,0,0,0,0,0,0,0,0,0,0,0,0,128,128]],.tup [.agg (xE 1 2 (.sl .plain (some true) 0 []) (.sl .plain none 0 [])),TB 0]),
 ([sX [129,4,129,4,128,128,129,1,129,8,128,128,128,128,128,128,128,128,0,0,0,0,0,0,0,0,0,0,0,0,0,0,0,0,128,128]],.tup [.agg (xE 4 1 (.sl .plain (some true) 0 []) (.sl .plain none 0 [])),TB 0])]
theorem z8G:Ir z7e WN 0=true:=by kernel_rfl
theorem z8P:Ir z7e WN 1=true:=by kernel_rfl
def z8ha:List oH->Option oH:=z8n WN
def z6t:XE:={G:=λ_ _=>none,T:=tX}
def z0O:XM:=Fd z6t yL fuX [1] []
def z2N:XE:={G:=λ_ _=>none,T:=tX,M:=λn=>match n with|366=>z0O|_=>⟨[],[],λ_=>none⟩}
def z91:XW:=Ns z2N yN fuX [2,3] [2,3,400009]
def z3sa:XE:={G:=λn=>match n with|45=>z90|55=>x_55|58=>x_58|322=>z8ha|_=>λ_=>none,T:=tX,M:=λn=>match n with|366=>z0O|_=>⟨[],[],λ_=>none⟩,C:=λn=>match n with|367=>z91|_=>⟨[],[],λ_ _=>none⟩}
def z44:List oH->Option oH:=Ma z3sa Nh fuX
def x_41:=fX [(7,x_7),(12,z3p)] KK
def x_43:=fX [(12,z3p)] Kw
def z8ja:=fX [(12,z3p),(41,x_41),(43,x_43),(129,z9e),(302,z3z)] Of
def x_60:=fX [] Bj
def x_54:=fX [] pV
def z6Y:=fX [(54,x_54)] qR
def z06:=fX [(149,z6Y)] qO
def z9da:=fX [(329,z06)] oW
def z5V:=fX [(60,x_60),(376,z9da)] FQ
def z5ba:List oH->Option oH:=xOf
def z8ka:=fX [] qP
def z3v:=fX [(20,z5ba),(23,z8ka)] qJ
def z41:=fX [] qK
def z4s:=fX [(214,z41)] pg
def z2ba:=fX [(20,z5ba),(202,z3v),(211,z4s)] pY
def z4H:=fX [] FL
def z60:=fX [(20,z5ba),(23,z8ka)] qN
def z2da:=fX [(201,z60),(202,z3v),(211,z4s)] pZ
def z9fa:=fX [] rb
def z5xa:=fX [(30,z9fa)] qr
def z1za:=fX [(30,z9fa)] qM
def z2V:=fX [(29,z5xa),(30,z9fa),(40,z1za)] qk
def z6ca:=fX [] pJ
def z20:=fX [(23,z8ka),(29,z5xa),(30,z9fa),(40,z1za),(147,z2V),(332,z6ca)] qj
def UN:List oH->Option oH:=fX [(20,z5ba),(333,z20)] qh
def S9:List (List oH×oH):=[([.agg (xE 1 1 (.sl .plain none 0 []) (.sl .plain none 0 []))],.agg (bys [12,247,105,47,134,167,94,207,185,106,250,95,210,127,135,253])),
 ([.agg (xE 1 2 (.sl .plain none 0 []) (.sl .plain none 0 []))],.agg (bys [222,221,53,32,31,115,10,164,53,42,72,187,27,53,28,11])),
 ([.agg (xE 4 1 (.sl .plain none 0 []) (.sl .plain none 0 []))],.agg (bys [178,26,204,160,193,221,106,94,184,210,48,178,89,11,206,52]))]
theorem z9N:Ir UN S9 0=true:=by kernel_rfl
theorem z1A:Ir UN S9 1=true:=by kernel_rfl
theorem z1M:Ir UN S9 2=true:=by kernel_rfl
def z16:List oH->Option oH:=z8n S9
def z5ga:=fX [(334,z16)] py
def z4ka:=fX [(212,z2da),(375,z4H),(382,z5ga)] Fg
def z69:=fX [(213,z2ba),(375,z4H),(379,z4ka)] FD
def z81:=fX [] DU
def Xw:=fX [(209,z8fa),(348,Tt),(349,Pv),(353,z7y),(355,z5fa),(357,z4da),(359,z63),(360,z3Z),(363,z27),(365,z7Z),(368,z44),(369,z8ja),(377,z5V),(386,z69),(396,z81)] D3
theorem z0va:(match Xw [] with|some (.lit (.bool b))=>b|_=>false)=true:=by kernel_rfl
end Go.Abs
end