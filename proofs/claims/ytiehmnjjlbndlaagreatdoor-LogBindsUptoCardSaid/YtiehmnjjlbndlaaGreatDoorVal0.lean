/- The translated functions are those that the lemmas speak of; so each meets its contract. -/
import Derived.Test.YtiehmnjjlbndlaaGreatDoorRows
import Derived.Test.YtiehmnjjlbndlaaGreatDoorF1
import Derived.KernelRfl
set_option linter.all false
namespace Go.Abs.V0
open Go.Proofs Go.Proofs.Tryz
set_option maxRecDepth 100000
theorem Q_{a:Type}{p:a->Prop}{x:a}{l:List a}(h:p x∧∀y∈l,p y):∀y∈x::l,p y:=List.forall_mem_cons.2 h
theorem N_{a:Type}(p:a->Prop):∀y∈([]:List a),p y:=List.forall_mem_nil p
abbrev LB:=List (Nat×Bool)
def nu:Nat->FuncId
 |0=>138
 |1=>139
 |2=>140
 |3=>125
 |4=>150
 |7=>118
 |8=>134
 |10=>151
 |11=>152
 |12=>67
 |13=>153
 |15=>133
 |20=>92
 |21=>42
 |23=>98
 |24=>146
 |25=>147
 |26=>148
 |28=>94
 |29=>95
 |30=>99
 |39=>117
 |40=>96
 |41=>68
 |43=>69
 |45=>61
 |47=>107
 |48=>108
 |51=>135
 |52=>110
 |54=>101
 |55=>62
 |58=>64
 |60=>72
 |61=>149
 |129=>66
 |130=>119
 |132=>129
 |133=>127
 |139=>120
 |147=>97
 |149=>48
 |164=>122
 |165=>76
 |166=>123
 |167=>87
 |168=>74
 |169=>77
 |170=>132
 |174=>88
 |175=>88
 |176=>35
 |179=>73
 |180=>56
 |181=>131
 |182=>86
 |183=>75
 |184=>124
 |185=>30
 |188=>121
 |189=>142
 |190=>143
 |191=>144
 |192=>145
 |193=>136
 |194=>137
 |195=>45
 |200=>57
 |201=>90
 |202=>91
 |205=>93
 |206=>40
 |208=>47
 |209=>24
 |211=>17
 |212=>38
 |213=>39
 |214=>50
 |293=>84
 |294=>83
 |295=>78
 |296=>79
 |297=>81
 |298=>80
 |299=>82
 |300=>32
 |301=>128
 |302=>65
 |303=>105
 |312=>130
 |313=>126
 |314=>141
 |316=>111
 |318=>113
 |320=>115
 |322=>63
 |323=>109
 |324=>112
 |325=>114
 |326=>116
 |327=>49
 |329=>36
 |331=>16
 |332=>100
 |333=>43
 |334=>89
 |348=>23
 |349=>9
 |350=>55
 |351=>54
 |352=>53
 |353=>22
 |354=>34
 |355=>8
 |356=>51
 |357=>19
 |358=>52
 |359=>21
 |360=>20
 |361=>31
 |362=>33
 |363=>10
 |364=>58
 |365=>25
 |366=>59
 |367=>60
 |368=>26
 |369=>27
 |370=>102
 |371=>103
 |372=>104
 |373=>85
 |374=>106
 |375=>71
 |376=>11
 |377=>29
 |379=>70
 |382=>37
 |386=>28
 |387=>12
 |389=>4
 |390=>6
 |391=>7
 |395=>5
 |396=>18
 |397=>13
 |398=>14
 |399=>15
 |400=>3
 |401=>41
 |402=>44
 |403=>46
 |_=>0
def gnum:Nat->Nat
 |0=>3
 |1=>0
 |3=>2
 |4=>1
 |_=>0
def gG:Nat->aW
 |0=>Er
 |1=>QS
 |2=>Us
 |3=>LT
 |4=>Ie
 |7=>Dy
 |8=>ofC
 |10=>Be
 |11=>z4k
 |12=>gx
 |13=>Xk
 |15=>O5
 |20=>Kq
 |21=>v7
 |23=>yy
 |24=>D2
 |25=>Be
 |26=>L6
 |28=>zZ
 |29=>BY
 |30=>Kd
 |39=>xu
 |40=>xw
 |54=>wF
 |129=>uS
 |130=>Hh
 |132=>wF
 |133=>BQ
 |139=>N4
 |147=>Hh
 |149=>BQ
 |164=>inM
 |165=>shM
 |166=>IY
 |167=>LM
 |168=>FW
 |169=>EH
 |170=>TG
 |175=>z7l
 |176=>RX
 |179=>Lk
 |180=>Oz
 |181=>tzC
 |182=>fgC Na
 |185=>Mf
 |188=>Ip
 |189=>noC
 |190=>tzC
 |191=>noC
 |192=>TG
 |193=>noC
 |194=>Ip
 |195=>LM
 |201=>z3l
 |202=>Xn
 |205=>GS
 |206=>RX
 |208=>P6
 |211=>Lk
 |212=>Ub
 |213=>Mf
 |214=>z6n
 |293=>z2M
 |294=>z4G
 |295=>z8p
 |296=>z8t
 |297=>z6N
 |298=>Qc
 |299=>Ih
 |300=>PQ
 |301=>J1
 |302=>G2
 |303=>C7
 |312=>KJ
 |313=>Ow
 |314=>MY
 |327=>Qi
 |329=>Ih
 |331=>PQ
 |332=>Qy
 |333=>G2
 |334=>C7
 |348=>z0m
 |349=>Ty
 |350=>TF
 |354=>S2
 |355=>PP
 |358=>KO
 |361=>z5y
 |362=>Qt
 |363=>QC
 |373=>Ox
 |374=>Li
 |376=>z5q
 |382=>z8j
 |387=>OX
 |389=>Qr
 |390=>Qp
 |391=>Qa
 |395=>QD
 |400=>UV
 |_=>⟨λ_=>False,λ_=> .undef⟩
def gM:Nat->CM
 |183=>Sf
 |397=>Fj
 |398=>K6
 |399=>QN
 |401=>Ks
 |402=>EG
 |403=>DP
 |_=>⟨[],[],λ_=>False,λ_=> .undef,λ_ _=>[]⟩
def gC:Nat->CW
 |174=>Fc
 |_=>⟨[],[],[],λ_ _=>False,λ_ _=> .undef,λ_ _ _=>[]⟩
def gI:Nat->ItC
 |184=>Pf
 |372=>WL
 |_=>⟨λ_ _=>False,λ_ _ _=>none,[]⟩
def gT:Nat->List oH:=tX
def E0:Env:={G:=gG,T:=gT,M:=gM,I:=gI,C:=gC}
noncomputable def K0:Cx:={P:=Tryz.prog,nu:=nu,globs:=[],mkt:=36,met:=9,N:={gnum:=gnum,gs:=[0,1,3,4]},E:=E0}
theorem v_0:oK K0 0 Er:=fV (F:=wC) [] func138 (by kernel_rfl) trivial (z1j E0)
theorem v_13:oK K0 13 Xk:=fV (F:=rC) [] func153 (by kernel_rfl) trivial (z4L E0)
theorem v_10:oK K0 10 Be:=fV (F:=tA) [(13,false)] func151 (by kernel_rfl) ⟨v_13,trivial⟩ (z7d E0 rfl)
theorem v_11:oK K0 11 z4k:=fV (F:=AG) [(13,false)] func152 (by kernel_rfl) ⟨v_13,trivial⟩ (z0aa E0 rfl)
theorem v_4:oK K0 4 Ie:=fV (F:=tt) [(10,false),(11,false)] func150 (by kernel_rfl) ⟨v_10,v_11,trivial⟩ (z0e E0 rfl rfl rfl)
theorem v_1:oK K0 1 QS:=fV (F:=su) [(4,false)] func139 (by kernel_rfl) ⟨v_4,trivial⟩ (z4A E0 rfl)
theorem v_12:oK K0 12 gx:=fV (F:=aH) [] func67 (by kernel_rfl) trivial (jy E0)
theorem v_7:oK K0 7 Dy:=fV (F:=uT) [(12,false)] func118 (by kernel_rfl) ⟨v_12,trivial⟩ (z6d E0 rfl)
theorem v_2:oK K0 2 Us:=fV (F:=sr) [(1,false)] func140 (by kernel_rfl) ⟨v_1,trivial⟩ (z7ia E0 rfl)
theorem v_8:oK K0 8 ofC:=fV (F:=CB) [(0,false),(1,false),(7,false),(2,false)] func134 (by kernel_rfl) ⟨v_0,v_1,v_7,v_2,trivial⟩ (z7ua E0 rfl rfl rfl rfl)
theorem v_30:oK K0 30 Kd:=fV (F:=rb) [] func99 (by kernel_rfl) trivial (z5C E0)
theorem v_29:oK K0 29 BY:=fV (F:=qr) [(30,false)] func95 (by kernel_rfl) ⟨v_30,trivial⟩ (TU E0 rfl)
theorem v_21:oK K0 21 v7:=fV (F:=rg) [(29,false)] func42 (by kernel_rfl) ⟨v_29,trivial⟩ (z2e E0 rfl)
theorem v_24:oK K0 24 D2:=fV (F:=qU) [] func146 (by kernel_rfl) trivial (T8 E0)
theorem v_26:oK K0 26 L6:=fV (F:=rB) [] func148 (by kernel_rfl) trivial (z8H E0)
theorem v_25:oK K0 25 Be:=fV (F:=re) [(26,false)] func147 (by kernel_rfl) ⟨v_26,trivial⟩ (XS E0 rfl)
theorem v_15:oK K0 15 O5:=fV (F:=rU) [(24,false),(25,false),(26,false)] func133 (by kernel_rfl) ⟨v_24,v_25,v_26,trivial⟩ (z0w E0 rfl rfl rfl rfl)
theorem v_28:oK K0 28 zZ:=fV (F:=ri) [(15,false)] func94 (by kernel_rfl) ⟨v_15,trivial⟩ (z7b E0 rfl)
theorem v_20:oK K0 20 Kq:=fV (F:=ss) [(21,false),(28,false)] func92 (by kernel_rfl) ⟨v_21,v_28,trivial⟩ (z0ka E0 rfl rfl)
theorem v_3:oK K0 3 LT:=fV (F:=Ay) [(0,false),(1,false),(2,false)] func125 (by kernel_rfl) ⟨v_0,v_1,v_2,trivial⟩ (z6A E0 rfl rfl rfl)
theorem v_165:oK K0 165 shM:=fV (F:=uk) [(3,false)] func76 (by kernel_rfl) ⟨v_3,trivial⟩ (Ud E0 rfl)
theorem c_n180:pz K0 qY Tryz.f56=true:=by kernel_rfl
theorem k_n180:(ae qY.body).all (λp=>([]:LB).contains p)=true:=by kernel_rfl
theorem v_180:oK K0 180 Oz:=OO 0 (CY (K:=K0) (f:=180) (F:=qY) (c:=z4qa) func56 c_n180 (aw k_n180 (N_ _)) (z4O E0) (by kernel_rfl)) z8d
theorem c_n358:pz K0 pL Tryz.f52=true:=by kernel_rfl
theorem k_n358:(ae pL.body).all (λp=>([]:LB).contains p)=true:=by kernel_rfl
theorem v_358:oK K0 358 KO:=OO 0 (CY (K:=K0) (f:=358) (F:=pL) (c:=z3c) func52 c_n358 (aw k_n358 (N_ _)) (z0H E0) (by kernel_rfl)) z5d
theorem v_139:oK K0 139 N4:=Go.Abs.TryzG.grow_valid rfl rfl ⟨Tryz.f120,func120,by kernel_rfl,by kernel_rfl⟩
theorem v_374:oK K0 374 Li:=Go.Abs.TryzH.grow_valid rfl rfl ⟨Tryz.f106,func106,by kernel_rfl,by kernel_rfl⟩
theorem c_n184:WH K0 qQ Tryz.f124=true:=by kernel_rfl
theorem k_n184:th qQ.body=[]:=by kernel_rfl
theorem v_184:uu K0 184 Pf:=L8 (K:=K0) (f:=184) (F:=qQ) func124 c_n184 (by rw[k_n184];exact N_ _) (z1z E0)
theorem v_389:oK K0 389 Qr:=fV (F:=qz) [] func4 (by kernel_rfl) trivial (z0s E0)
theorem v_395:oK K0 395 QD:=fV (F:=pR) [] func5 (by kernel_rfl) trivial (z8Q E0)
theorem v_54:oK K0 54 wF:=fV (F:=pV) [] func101 (by kernel_rfl) trivial (T9 E0)
theorem v_149:oK K0 149 BQ:=fV (F:=qR) [(54,false)] func48 (by kernel_rfl) ⟨v_54,trivial⟩ (Y2 E0 rfl)
theorem v_327:oK K0 327 Qi:=fV (F:=qt) [] func49 (by kernel_rfl) trivial (z6w E0)
theorem v_331:oK K0 331 PQ:=fV (F:=rh) [(149,false),(327,false)] func16 (by kernel_rfl) ⟨v_149,v_327,trivial⟩ (z3r E0 rfl rfl)
theorem v_214:oK K0 214 z6n:=fV (F:=qK) [] func50 (by kernel_rfl) trivial (Z4 E0)
theorem v_211:oK K0 211 Lk:=fV (F:=pg) [(214,false)] func17 (by kernel_rfl) ⟨v_214,trivial⟩ (z0u E0 rfl)
theorem v_390:oK K0 390 Qp:=fV (F:=pk) [(331,false),(211,false)] func6 (by kernel_rfl) ⟨v_331,v_211,trivial⟩ (Xt E0 rfl rfl)
theorem v_349:oK K0 349 Ty:=fV (F:=yb) [] func9 (by kernel_rfl) trivial (z8ea E0)
theorem v_350:oK K0 350 TF:=fV (F:=tU) [] func55 (by kernel_rfl) trivial (z39 E0)
theorem v_193:oK K0 193 noC:=fV (F:=rS) [] func136 (by kernel_rfl) trivial (Vs E0)
theorem v_194:oK K0 194 Ip:=fV (F:=qZ) [] func137 (by kernel_rfl) trivial (V8 E0)
theorem v_188:oK K0 188 Ip:=fV (F:=rY) [(193,false),(194,false)] func121 (by kernel_rfl) ⟨v_193,v_194,trivial⟩ (z8v E0 rfl)
theorem v_179:oK K0 179 Lk:=fV (F:=rF) [(188,false)] func73 (by kernel_rfl) ⟨v_188,trivial⟩ (z01 E0 rfl)
theorem v_164:oK K0 164 inM:=fV (F:=sW) [(7,false)] func122 (by kernel_rfl) ⟨v_7,trivial⟩ (WU E0 rfl)
theorem v_166:oK K0 166 IY:=fV (F:=ua) [(164,false)] func123 (by kernel_rfl) ⟨v_164,trivial⟩ (z5J E0 rfl)
theorem v_189:oK K0 189 noC:=fV (F:=qD) [] func142 (by kernel_rfl) trivial (z8L E0)
theorem v_190:oK K0 190 tzC:=fV (F:=pX) [] func143 (by kernel_rfl) trivial (z6z E0 rfl)
theorem v_181:oK K0 181 tzC:=fV (F:=qu) [(189,false),(190,false)] func131 (by kernel_rfl) ⟨v_189,v_190,trivial⟩ (z1ra E0 rfl)
theorem v_169:oK K0 169 EH:=fV (F:=tV) [(164,false)] func77 (by kernel_rfl) ⟨v_164,trivial⟩ (z3M E0 rfl)
theorem c_n182:pz K0 rm Tryz.f86=true:=by kernel_rfl
theorem k_n182:(ae rm.body).all (λp=>([(179,false),(180,false),(166,false),(165,false),(181,false),(169,false)]:LB).contains p)=true:=by kernel_rfl
theorem v_182:oK K0 182 (fgC Na):=Y8 (CY (K:=K0) (f:=182) (F:=rm) func86 c_n182 (aw k_n182 (Q_ ⟨v_179,Q_ ⟨v_180,Q_ ⟨v_166,Q_ ⟨v_165,Q_ ⟨v_181,Q_ ⟨v_169,N_ _⟩⟩⟩⟩⟩⟩)) (z4ga E0 rfl rfl rfl rfl rfl rfl) (by kernel_rfl))
theorem v_39:oK K0 39 xu:=fV (F:=vI) [(12,false)] func117 (by kernel_rfl) ⟨v_12,trivial⟩ (z9u E0 rfl)
theorem v_129:oK K0 129 uS:=fV (F:=sA) [(139,false)] func66 (by kernel_rfl) ⟨v_139,trivial⟩ (UD E0 rfl)
theorem v_130:oK K0 130 Hh:=fV (F:=sc) [(12,false),(7,false),(39,false),(129,false)] func119 (by kernel_rfl) ⟨v_12,v_7,v_39,v_129,trivial⟩ (z0J E0 rfl rfl rfl rfl)
theorem v_302:oK K0 302 G2:=fV (F:=sU) [(39,false),(130,false),(7,false),(12,false),(129,false)] func65 (by kernel_rfl) ⟨v_39,v_130,v_7,v_12,v_129,trivial⟩ (XI E0 rfl rfl rfl rfl rfl)
theorem v_303:oK K0 303 C7:=fV (F:=te) [(302,false),(8,false)] func105 (by kernel_rfl) ⟨v_302,v_8,trivial⟩ (z3e E0 rfl rfl)
theorem c_n372:WH K0 pO Tryz.f104=true:=by kernel_rfl
theorem k_n372:th pO.body=[(303,false)]:=by kernel_rfl
theorem v_372:uu K0 372 WL:=L8 (K:=K0) (f:=372) (F:=pO) func104 c_n372 (by rw[k_n372];exact Q_ ⟨v_303,N_ _⟩) (z5M E0 rfl)
theorem i_n354:yB pi.body=[372]:=by kernel_rfl
theorem c_n354:pz K0 pi Tryz.f34=true:=by kernel_rfl
theorem k_n354:(ae pi.body).all (λp=>([(350,false),(182,false)]:LB).contains p)=true:=by kernel_rfl
theorem v_354:oK K0 354 S2:=JI (K:=K0) (f:=354) (F:=pi) func34 c_n354 (aw k_n354 (Q_ ⟨v_350,Q_ ⟨v_182,N_ _⟩⟩)) (z6ba E0 rfl rfl rfl) (by rw[i_n354];exact Q_ ⟨v_372,N_ _⟩) (by kernel_rfl) (by kernel_rfl)
theorem v_348:oK K0 348 z0m:=fV (F:=ub) [(349,false),(180,false),(354,false)] func23 (by kernel_rfl) ⟨v_349,v_180,v_354,trivial⟩ (z65 E0 rfl rfl rfl)
theorem v_191:oK K0 191 noC:=fV (F:=wA) [] func144 (by kernel_rfl) trivial (Y5 E0)
theorem v_192:oK K0 192 TG:=fV (F:=tS) [] func145 (by kernel_rfl) trivial (Zn E0)
theorem v_170:oK K0 170 TG:=fV (F:=yu) [(191,false),(192,false)] func132 (by kernel_rfl) ⟨v_191,v_192,trivial⟩ (z24 E0 rfl)
theorem v_167:oK K0 167 LM:=fV (F:=tc) [(170,false)] func87 (by kernel_rfl) ⟨v_170,trivial⟩ (z0h E0 rfl)
theorem c_n168:∀c',pz (K0.wG 168 c') pK Tryz.f74=true:=λc'=>by kernel_rfl
theorem k_n168:(ae pK.body).all (λp=>p==(168,false)||([(164,false),(165,false),(166,false),(167,false),(169,false)]:LB).contains p)=true:=by kernel_rfl
theorem v_168:oK K0 168 FW:=Cl (K:=K0) (f:=168) (F:=pK) JF func74 c_n168 (cU k_n168 (Q_ ⟨v_164,Q_ ⟨v_165,Q_ ⟨v_166,Q_ ⟨v_167,Q_ ⟨v_169,N_ _⟩⟩⟩⟩⟩)) (λn=>z2A _ n rfl rfl rfl rfl rfl rfl) (by kernel_rfl)
theorem c_n183:pz K0 pP Tryz.f75=true:=by kernel_rfl
theorem k_n183:(ae pP.body).all (λp=>([]:LB).contains p)=true:=by kernel_rfl
theorem v_183:ru K0 183 Sf:=yE (K:=K0) (f:=183) (F:=pP) func75 c_n183 (aw k_n183 (N_ _)) (by decide) (z42 E0) (by kernel_rfl) (by kernel_rfl)
theorem i_n185:yB pW.body=[184]:=by kernel_rfl
theorem c_n185:pz K0 pW Tryz.f30=true:=by kernel_rfl
theorem k_n185:(ae pW.body).all (λp=>([(179,false),(168,false),(183,true),(169,false),(165,false)]:LB).contains p)=true:=by kernel_rfl
theorem v_185:oK K0 185 Mf:=JI (K:=K0) (f:=185) (F:=pW) func30 c_n185 (aw k_n185 (Q_ ⟨v_179,Q_ ⟨v_168,Q_ ⟨v_183,Q_ ⟨v_169,Q_ ⟨v_165,N_ _⟩⟩⟩⟩⟩)) (z96 E0 rfl rfl rfl rfl rfl rfl) (by rw[i_n185];exact Q_ ⟨v_184,N_ _⟩) (by kernel_rfl) (by kernel_rfl)
theorem v_355:oK K0 355 PP:=fV (F:=yC) [(349,false),(348,false),(185,false)] func8 (by kernel_rfl) ⟨v_349,v_348,v_185,trivial⟩ (z9E E0 rfl rfl rfl)
theorem v_295:oK K0 295 z8p:=fV (F:=rI) [] func78 (by kernel_rfl) trivial (z9ia E0)
theorem v_296:oK K0 296 z8t:=fV (F:=sB) [(295,false)] func79 (by kernel_rfl) ⟨v_295,trivial⟩ (z0ea E0 rfl)
theorem v_297:oK K0 297 z6N:=fV (F:=sC) [(296,false)] func81 (by kernel_rfl) ⟨v_296,trivial⟩ (z4fa E0 rfl)
theorem v_313:oK K0 313 Ow:=fV (F:=oY) [(297,false)] func126 (by kernel_rfl) ⟨v_297,trivial⟩ (z0L E0 rfl)
theorem v_298:oK K0 298 Qc:=fV (F:=oT) [(313,false)] func80 (by kernel_rfl) ⟨v_313,trivial⟩ (z2G E0 rfl)
theorem v_294:oK K0 294 z4G:=fV (F:=uP) [] func83 (by kernel_rfl) trivial (z8W E0)
theorem v_132:oK K0 132 wF:=fV (F:=sq) [] func129 (by kernel_rfl) trivial (z14 E0)
theorem v_133:oK K0 133 BQ:=fV (F:=sY) [(132,false)] func127 (by kernel_rfl) ⟨v_132,trivial⟩ (Y4 E0 rfl)
theorem v_301:oK K0 301 J1:=fV (F:=qi) [] func128 (by kernel_rfl) trivial (z1i E0)
theorem v_299:oK K0 299 Ih:=fV (F:=uR) [(133,false),(301,false),(132,false)] func82 (by kernel_rfl) ⟨v_133,v_301,v_132,trivial⟩ (X7 E0 rfl rfl rfl)
theorem v_314:oK K0 314 MY:=fV (F:=sV) [] func141 (by kernel_rfl) trivial (z2t E0)
theorem v_312:oK K0 312 KJ:=fV (F:=rA) [(314,false)] func130 (by kernel_rfl) ⟨v_314,trivial⟩ (z6F E0 rfl)
theorem v_293:oK K0 293 z2M:=fV (F:=s8) [(312,false)] func84 (by kernel_rfl) ⟨v_312,trivial⟩ (z0ba E0 rfl)
theorem v_300:oK K0 300 PQ:=fV (F:=tW) [(295,false),(298,false),(294,false),(299,false),(293,false)] func32 (by kernel_rfl) ⟨v_295,v_298,v_294,v_299,v_293,trivial⟩ (z3H E0 rfl rfl rfl rfl rfl)
theorem v_361:oK K0 361 z5y:=fV (F:=rc) [(300,false)] func31 (by kernel_rfl) ⟨v_300,trivial⟩ (z19 E0 rfl)
theorem v_373:oK K0 373 Ox:=fV (F:=oL) [(361,false)] func85 (by kernel_rfl) ⟨v_361,trivial⟩ (z4y E0 rfl)
theorem v_362:oK K0 362 Qt:=fV (F:=oQ) [(373,false)] func33 (by kernel_rfl) ⟨v_373,trivial⟩ (z7I E0 rfl)
theorem c_n174:pz K0 ph Tryz.f88=true:=by kernel_rfl
theorem k_n174:(ae ph.body).all (λp=>([]:LB).contains p)=true:=by kernel_rfl
theorem v_174:zj K0 174 Fc:=Jl (K:=K0) (f:=174) (F:=ph) func88 c_n174 (aw k_n174 (N_ _)) (z4I E0) (by kernel_rfl) (by kernel_rfl)
theorem v_175:oK K0 175 z7l:=fV (F:=po) [] func88 (by kernel_rfl) trivial (z6h E0)
theorem v_176:oK K0 176 RX:=fV (F:=pF) [(167,false),(500000174,true),(175,false),(169,false),(165,false)] func35 (by kernel_rfl) ⟨v_167,v_174,v_175,v_169,v_165,trivial⟩ (z48 E0 rfl rfl rfl rfl rfl)
theorem v_363:oK K0 363 QC:=fV (F:=o8) [(362,false),(354,false),(185,false),(176,false)] func10 (by kernel_rfl) ⟨v_362,v_354,v_185,v_176,trivial⟩ (z3D E0 rfl rfl rfl rfl)
theorem v_329:oK K0 329 Ih:=fV (F:=qO) [(149,false)] func36 (by kernel_rfl) ⟨v_149,trivial⟩ (z0a E0 rfl)
theorem v_376:oK K0 376 z5q:=fV (F:=oW) [(329,false)] func11 (by kernel_rfl) ⟨v_329,trivial⟩ (z3Y E0 rfl)
theorem v_40:oK K0 40 xw:=fV (F:=qM) [(30,false)] func96 (by kernel_rfl) ⟨v_30,trivial⟩ (Xy E0 rfl)
theorem v_147:oK K0 147 Hh:=fV (F:=qk) [(30,false),(29,false),(40,false)] func97 (by kernel_rfl) ⟨v_30,v_29,v_40,trivial⟩ (z1H E0 rfl rfl rfl)
theorem v_23:oK K0 23 yy:=fV (F:=qP) [] func98 (by kernel_rfl) trivial (TZ E0)
theorem v_332:oK K0 332 Qy:=fV (F:=pJ) [] func100 (by kernel_rfl) trivial (z9v E0)
theorem v_333:oK K0 333 G2:=fV (F:=qj) [(40,false),(147,false),(29,false),(23,false),(30,false),(332,false)] func43 (by kernel_rfl) ⟨v_40,v_147,v_29,v_23,v_30,v_332,trivial⟩ (ZY E0 rfl rfl rfl rfl rfl rfl)
theorem v_334:oK K0 334 C7:=fV (F:=qh) [(333,false),(20,false)] func89 (by kernel_rfl) ⟨v_333,v_20,trivial⟩ (ZF E0 rfl rfl)
theorem v_382:oK K0 382 z8j:=fV (F:=py) [(334,false)] func37 (by kernel_rfl) ⟨v_334,trivial⟩ (z2Y E0 rfl)
theorem v_201:oK K0 201 z3l:=fV (F:=qN) [(23,false),(20,false)] func90 (by kernel_rfl) ⟨v_23,v_20,trivial⟩ (z0ja E0 rfl rfl)
theorem v_202:oK K0 202 Xn:=fV (F:=qJ) [(23,false),(20,false)] func91 (by kernel_rfl) ⟨v_23,v_20,trivial⟩ (z4Y E0 rfl rfl)
theorem v_212:oK K0 212 Ub:=fV (F:=pZ) [(211,false),(201,false),(202,false)] func38 (by kernel_rfl) ⟨v_211,v_201,v_202,trivial⟩ (z7H E0 rfl rfl rfl)
theorem v_213:oK K0 213 Mf:=fV (F:=pY) [(211,false),(20,false),(202,false)] func39 (by kernel_rfl) ⟨v_211,v_20,v_202,trivial⟩ (z9G E0 rfl rfl rfl)
theorem v_195:oK K0 195 LM:=fV (F:=rj) [] func45 (by kernel_rfl) trivial (z4M E0)
theorem c_n205:∀c',pz (K0.wG 205 c') o5 Tryz.f93=true:=λc'=>by kernel_rfl
theorem k_n205:(ae o5.body).all (λp=>p==(205,false)||([(195,false),(202,false)]:LB).contains p)=true:=by kernel_rfl
theorem v_205:oK K0 205 GS:=Cl (K:=K0) (f:=205) (F:=o5) Bu func93 c_n205 (cU k_n205 (Q_ ⟨v_195,Q_ ⟨v_202,N_ _⟩⟩)) (λn=>z9f _ n rfl rfl rfl) (by kernel_rfl)
theorem v_206:oK K0 206 RX:=fV (F:=oZ) [(205,false)] func40 (by kernel_rfl) ⟨v_205,trivial⟩ (z7ba E0 rfl)
theorem v_387:oK K0 387 OX:=fV (F:=pH) [(331,false),(382,false),(212,false),(213,false),(206,false)] func12 (by kernel_rfl) ⟨v_331,v_382,v_212,v_213,v_206,trivial⟩ (z0D E0 rfl rfl rfl rfl rfl)
theorem v_401:ru K0 401 Ks:=Go.Abs.TryzP.put_valid rfl rfl rfl rfl rfl ⟨Tryz.f41,func41,by kernel_rfl,by kernel_rfl⟩ v_28
theorem c_n397:pz K0 pt Tryz.f13=true:=by kernel_rfl
theorem k_n397:(ae pt.body).all (λp=>([(333,false),(21,false),(401,true)]:LB).contains p)=true:=by kernel_rfl
theorem v_397:ru K0 397 Fj:=yE (K:=K0) (f:=397) (F:=pt) func13 c_n397 (aw k_n397 (Q_ ⟨v_333,Q_ ⟨v_21,Q_ ⟨v_401,N_ _⟩⟩⟩)) (by decide) (z9K E0 rfl rfl rfl) (by kernel_rfl) (by kernel_rfl)
theorem c_n402:pz K0 pE Tryz.f44=true:=by kernel_rfl
theorem k_n402:(ae pE.body).all (λp=>([(23,false),(21,false),(401,true)]:LB).contains p)=true:=by kernel_rfl
theorem v_402:ru K0 402 EG:=yE (K:=K0) (f:=402) (F:=pE) func44 c_n402 (aw k_n402 (Q_ ⟨v_23,Q_ ⟨v_21,Q_ ⟨v_401,N_ _⟩⟩⟩)) (by decide) (Zk E0 rfl rfl rfl) (by kernel_rfl) (by kernel_rfl)
theorem c_n403:pz K0 pD Tryz.f46=true:=by kernel_rfl
theorem k_n403:(ae pD.body).all (λp=>([(23,false),(21,false),(401,true)]:LB).contains p)=true:=by kernel_rfl
theorem v_403:ru K0 403 DP:=yE (K:=K0) (f:=403) (F:=pD) func46 c_n403 (aw k_n403 (Q_ ⟨v_23,Q_ ⟨v_21,Q_ ⟨v_401,N_ _⟩⟩⟩)) (by decide) (Zl E0 rfl rfl rfl) (by kernel_rfl) (by kernel_rfl)
theorem c_n398:∀c',pz (K0.wM 398 c') o9 Tryz.f14=true:=λc'=>by kernel_rfl
theorem k_n398:(ae o9.body).all (λp=>p==(398,true)||([(21,false),(401,true),(402,true),(195,false),(403,true)]:LB).contains p)=true:=by kernel_rfl
theorem v_398:ru K0 398 K6:=Kb (K:=K0) (f:=398) (F:=o9) z86 (by kernel_rfl) func14 c_n398 (cU k_n398 (Q_ ⟨v_21,Q_ ⟨v_401,Q_ ⟨v_402,Q_ ⟨v_195,Q_ ⟨v_403,N_ _⟩⟩⟩⟩⟩)) (by decide) (λn=>z5aa _ n rfl rfl rfl rfl rfl rfl) (by kernel_rfl) (by kernel_rfl)
theorem c_n208:∀c',pz (K0.wG 208 c') oP Tryz.f47=true:=λc'=>by kernel_rfl
theorem k_n208:(ae oP.body).all (λp=>p==(208,false)||([(195,false),(23,false),(21,false),(28,false)]:LB).contains p)=true:=by kernel_rfl
theorem v_208:oK K0 208 P6:=Cl (K:=K0) (f:=208) (F:=oP) Bu func47 c_n208 (cU k_n208 (Q_ ⟨v_195,Q_ ⟨v_23,Q_ ⟨v_21,Q_ ⟨v_28,N_ _⟩⟩⟩⟩)) (λn=>z4t _ n rfl rfl rfl rfl rfl) (by kernel_rfl)
theorem c_n399:pz K0 pu Tryz.f15=true:=by kernel_rfl
theorem k_n399:(ae pu.body).all (λp=>([(397,true),(402,true),(403,true),(208,false),(401,true)]:LB).contains p)=true:=by kernel_rfl
theorem v_399:ru K0 399 QN:=yE (K:=K0) (f:=399) (F:=pu) func15 c_n399 (aw k_n399 (Q_ ⟨v_397,Q_ ⟨v_402,Q_ ⟨v_403,Q_ ⟨v_208,Q_ ⟨v_401,N_ _⟩⟩⟩⟩⟩)) (by decide) (z52 E0 rfl rfl rfl rfl rfl) (by kernel_rfl) (by kernel_rfl)
end Go.Abs.V0