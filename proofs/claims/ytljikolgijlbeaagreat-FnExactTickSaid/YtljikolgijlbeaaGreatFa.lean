/- Closed facts of the program's types and functions. Printed by drive.py. -/
import Derived.Test.YtljikolgijlbeaaGreatProg
import Derived.Test.YtljikolgijlbeaaGreatGo
import Derived.Test.YtljikolgijlbeaaGreatDat
import Derived.Test.YtljikolgijlbeaaGreatDel
import Derived.Test.YtljikolgijlbeaaGreatTap
namespace Go.Kx
open Go Go.RowKit Go.Proofs
set_option maxRecDepth 10000
set_option maxHeartbeats 8000000
set_option linter.unusedVariables false
set_option linter.unusedSimpArgs false
theorem ag102:aggV Tryz.prog 102=some none:=by kernel_rfl
theorem ag104:aggV Tryz.prog 104=some (some 13):=by kernel_rfl
theorem ag118:aggV Tryz.prog 118=some (some 1):=by kernel_rfl
theorem ag119:aggV Tryz.prog 119=some none:=by kernel_rfl
theorem ag120:aggV Tryz.prog 120=some none:=by kernel_rfl
theorem ag121:aggV Tryz.prog 121=some (some 4):=by kernel_rfl
theorem ag123:aggV Tryz.prog 123=some (some 5):=by kernel_rfl
theorem ag124:aggV Tryz.prog 124=some none:=by kernel_rfl
theorem ag125:aggV Tryz.prog 125=some (some 3):=by kernel_rfl
theorem ag127:aggV Tryz.prog 127=some (some 16):=by kernel_rfl
theorem ag138:aggV Tryz.prog 138=some (some 5):=by kernel_rfl
theorem ag170:aggV Tryz.prog 170=some (some 2):=by kernel_rfl
theorem ag209:aggV Tryz.prog 209=some (some 5):=by kernel_rfl
theorem ag213:aggV Tryz.prog 213=some (some 6):=by kernel_rfl
theorem ag228:aggV Tryz.prog 228=some none:=by kernel_rfl
theorem ag230:aggV Tryz.prog 230=some (some 13):=by kernel_rfl
theorem ag236:aggV Tryz.prog 236=some (some 2):=by kernel_rfl
theorem ag25:aggV Tryz.prog 25=some none:=by kernel_rfl
theorem ag27:aggV Tryz.prog 27=some (some 2):=by kernel_rfl
theorem ag3:aggV Tryz.prog 3=some none:=by kernel_rfl
theorem ag4:aggV Tryz.prog 4=some none:=by kernel_rfl
theorem ag41:aggV Tryz.prog 41=some none:=by kernel_rfl
theorem ag43:aggV Tryz.prog 43=some (some 2):=by kernel_rfl
theorem ag52:aggV Tryz.prog 52=some none:=by kernel_rfl
theorem ag54:aggV Tryz.prog 54=some (some 1):=by kernel_rfl
theorem ag56:aggV Tryz.prog 56=some (some 3):=by kernel_rfl
theorem ag59:aggV Tryz.prog 59=some none:=by kernel_rfl
theorem ag60:aggV Tryz.prog 60=some none:=by kernel_rfl
theorem ag62:aggV Tryz.prog 62=some (some 4):=by kernel_rfl
theorem ag64:aggV Tryz.prog 64=some (some 5):=by kernel_rfl
theorem ag65:aggV Tryz.prog 65=some none:=by kernel_rfl
theorem ag67:aggV Tryz.prog 67=some (some 16):=by kernel_rfl
theorem ag78:aggV Tryz.prog 78=some (some 1):=by kernel_rfl
theorem ag82:aggV Tryz.prog 82=some (some 6):=by kernel_rfl
theorem eg138:Program.eqGuardType Tryz.prog Tryz.prog.depth 138=false:=by kernel_rfl
theorem eg170:Program.eqGuardType Tryz.prog Tryz.prog.depth 170=false:=by kernel_rfl
theorem eq138:∀ (a b:DRes) (w:World),(Op.equalIn 10000 138 (.agg #[.bool a.live,.int .i64 a.parent,.int .i64 a.bal.pages,.int .i64 a.bal.rent,.int .i64 a.bal.cpu]) (.agg #[.bool b.live,.int .i64 b.parent,.int .i64 b.bal.pages,.int .i64 b.bal.rent,.int .i64 b.bal.cpu])).run Tryz.prog w=.ok (decide (a=b)) w:=fun a b w=>EqT.top (n:=2) (EqT.agg (n:=1) Tryz.underlying138 (by kernel_rfl) (EqF.one rfl ag4 rfl rfl (EqT.bool Tryz.underlying4) (EqF.one rfl ag3 rfl rfl (EqT.int Tryz.underlying3) (EqF.more rfl ag56 (EqT.agg (n:=0) Tryz.underlying56 (by kernel_rfl) (EqF.one rfl ag3 rfl rfl (EqT.int Tryz.underlying3) (EqF.one rfl ag3 rfl rfl (EqT.int Tryz.underlying3) (EqF.one rfl ag3 rfl rfl (EqT.int Tryz.underlying3) EqF.nil)))) EqF.nil)))) (by decide) (by
  obtain ⟨x0,x1,⟨x2,x3,x4⟩⟩:=a
  obtain ⟨y0,y1,⟨y2,y3,y4⟩⟩:=b
  simp [DRes.mk.injEq,DAmt.mk.injEq,Bool.beq_eq_decide_eq,Bool.decide_and]) w
theorem eq170:∀ (a b:DMsg) (w:World),(Op.equalIn 10000 170 (.agg #[.int .i64 a.src,.int .i64 a.n]) (.agg #[.int .i64 b.src,.int .i64 b.n])).run Tryz.prog w=.ok (decide (a=b)) w:=fun a b w=>EqT.top (n:=1) (EqT.agg (n:=0) Tryz.underlying170 (by kernel_rfl) (EqF.one rfl ag3 rfl rfl (EqT.int Tryz.underlying3) (EqF.one rfl ag3 rfl rfl (EqT.int Tryz.underlying3) EqF.nil))) (by decide) (by
  obtain ⟨x0,x1⟩:=a
  obtain ⟨y0,y1⟩:=b
  simp [DMsg.mk.injEq,Bool.beq_eq_decide_eq,Bool.decide_and]) w
theorem fo104_0:fo Tryz.prog 104 0=some (0,none):=by kernel_rfl
theorem fo104_1:fo Tryz.prog 104 1=some (1,none):=by kernel_rfl
theorem fo104_10:fo Tryz.prog 104 10=some (10,none):=by kernel_rfl
theorem fo104_11:fo Tryz.prog 104 11=some (11,none):=by kernel_rfl
theorem fo104_12:fo Tryz.prog 104 12=some (12,none):=by kernel_rfl
theorem fo104_2:fo Tryz.prog 104 2=some (2,none):=by kernel_rfl
theorem fo104_3:fo Tryz.prog 104 3=some (3,none):=by kernel_rfl
theorem fo104_4:fo Tryz.prog 104 4=some (4,none):=by kernel_rfl
theorem fo104_5:fo Tryz.prog 104 5=some (5,none):=by kernel_rfl
theorem fo104_6:fo Tryz.prog 104 6=some (6,none):=by kernel_rfl
theorem fo104_7:fo Tryz.prog 104 7=some (7,none):=by kernel_rfl
theorem fo104_8:fo Tryz.prog 104 8=some (8,none):=by kernel_rfl
theorem fo104_9:fo Tryz.prog 104 9=some (9,none):=by kernel_rfl
theorem fo118_0:fo Tryz.prog 118 0=some (0,none):=by kernel_rfl
theorem fo121_0:fo Tryz.prog 121 0=some (0,none):=by kernel_rfl
theorem fo121_1:fo Tryz.prog 121 1=some (1,none):=by kernel_rfl
theorem fo121_2:fo Tryz.prog 121 2=some (2,none):=by kernel_rfl
theorem fo121_3:fo Tryz.prog 121 3=some (3,none):=by kernel_rfl
theorem fo123_0:fo Tryz.prog 123 0=some (0,none):=by kernel_rfl
theorem fo123_1:fo Tryz.prog 123 1=some (1,some 4):=by kernel_rfl
theorem fo125_0:fo Tryz.prog 125 0=some (0,none):=by kernel_rfl
theorem fo125_1:fo Tryz.prog 125 1=some (1,none):=by kernel_rfl
theorem fo125_2:fo Tryz.prog 125 2=some (2,none):=by kernel_rfl
theorem fo127_0:fo Tryz.prog 127 0=some (0,some 1):=by kernel_rfl
theorem fo127_1:fo Tryz.prog 127 1=some (1,none):=by kernel_rfl
theorem fo127_2:fo Tryz.prog 127 2=some (2,none):=by kernel_rfl
theorem fo127_3:fo Tryz.prog 127 3=some (3,some 5):=by kernel_rfl
theorem fo127_4:fo Tryz.prog 127 4=some (8,none):=by kernel_rfl
theorem fo127_5:fo Tryz.prog 127 5=some (9,none):=by kernel_rfl
theorem fo127_6:fo Tryz.prog 127 6=some (10,none):=by kernel_rfl
theorem fo127_7:fo Tryz.prog 127 7=some (11,some 3):=by kernel_rfl
theorem fo127_8:fo Tryz.prog 127 8=some (14,none):=by kernel_rfl
theorem fo127_9:fo Tryz.prog 127 9=some (15,none):=by kernel_rfl
theorem fo138_0:fo Tryz.prog 138 0=some (0,none):=by kernel_rfl
theorem fo138_1:fo Tryz.prog 138 1=some (1,none):=by kernel_rfl
theorem fo138_2:fo Tryz.prog 138 2=some (2,some 3):=by kernel_rfl
theorem fo170_0:fo Tryz.prog 170 0=some (0,none):=by kernel_rfl
theorem fo170_1:fo Tryz.prog 170 1=some (1,none):=by kernel_rfl
theorem fo209_0:fo Tryz.prog 209 0=some (0,none):=by kernel_rfl
theorem fo209_1:fo Tryz.prog 209 1=some (1,none):=by kernel_rfl
theorem fo209_2:fo Tryz.prog 209 2=some (2,some 3):=by kernel_rfl
theorem fo213_0:fo Tryz.prog 213 0=some (0,none):=by kernel_rfl
theorem fo213_1:fo Tryz.prog 213 1=some (1,none):=by kernel_rfl
theorem fo213_2:fo Tryz.prog 213 2=some (2,none):=by kernel_rfl
theorem fo213_3:fo Tryz.prog 213 3=some (3,none):=by kernel_rfl
theorem fo213_4:fo Tryz.prog 213 4=some (4,none):=by kernel_rfl
theorem fo213_5:fo Tryz.prog 213 5=some (5,none):=by kernel_rfl
theorem fo230_0:fo Tryz.prog 230 0=some (0,none):=by kernel_rfl
theorem fo230_1:fo Tryz.prog 230 1=some (1,none):=by kernel_rfl
theorem fo230_10:fo Tryz.prog 230 10=some (10,none):=by kernel_rfl
theorem fo230_11:fo Tryz.prog 230 11=some (11,none):=by kernel_rfl
theorem fo230_12:fo Tryz.prog 230 12=some (12,none):=by kernel_rfl
theorem fo230_2:fo Tryz.prog 230 2=some (2,none):=by kernel_rfl
theorem fo230_3:fo Tryz.prog 230 3=some (3,none):=by kernel_rfl
theorem fo230_4:fo Tryz.prog 230 4=some (4,none):=by kernel_rfl
theorem fo230_5:fo Tryz.prog 230 5=some (5,none):=by kernel_rfl
theorem fo230_6:fo Tryz.prog 230 6=some (6,none):=by kernel_rfl
theorem fo230_7:fo Tryz.prog 230 7=some (7,none):=by kernel_rfl
theorem fo230_8:fo Tryz.prog 230 8=some (8,none):=by kernel_rfl
theorem fo230_9:fo Tryz.prog 230 9=some (9,none):=by kernel_rfl
theorem fo236_0:fo Tryz.prog 236 0=some (0,none):=by kernel_rfl
theorem fo236_1:fo Tryz.prog 236 1=some (1,none):=by kernel_rfl
theorem fo27_0:fo Tryz.prog 27 0=some (0,none):=by kernel_rfl
theorem fo27_1:fo Tryz.prog 27 1=some (1,none):=by kernel_rfl
theorem fo43_0:fo Tryz.prog 43 0=some (0,none):=by kernel_rfl
theorem fo43_1:fo Tryz.prog 43 1=some (1,none):=by kernel_rfl
theorem fo54_0:fo Tryz.prog 54 0=some (0,none):=by kernel_rfl
theorem fo56_0:fo Tryz.prog 56 0=some (0,none):=by kernel_rfl
theorem fo56_1:fo Tryz.prog 56 1=some (1,none):=by kernel_rfl
theorem fo56_2:fo Tryz.prog 56 2=some (2,none):=by kernel_rfl
theorem fo62_0:fo Tryz.prog 62 0=some (0,none):=by kernel_rfl
theorem fo62_1:fo Tryz.prog 62 1=some (1,none):=by kernel_rfl
theorem fo62_2:fo Tryz.prog 62 2=some (2,none):=by kernel_rfl
theorem fo62_3:fo Tryz.prog 62 3=some (3,none):=by kernel_rfl
theorem fo64_0:fo Tryz.prog 64 0=some (0,none):=by kernel_rfl
theorem fo64_1:fo Tryz.prog 64 1=some (1,some 4):=by kernel_rfl
theorem fo67_0:fo Tryz.prog 67 0=some (0,some 1):=by kernel_rfl
theorem fo67_1:fo Tryz.prog 67 1=some (1,none):=by kernel_rfl
theorem fo67_2:fo Tryz.prog 67 2=some (2,none):=by kernel_rfl
theorem fo67_3:fo Tryz.prog 67 3=some (3,some 5):=by kernel_rfl
theorem fo67_4:fo Tryz.prog 67 4=some (8,none):=by kernel_rfl
theorem fo67_5:fo Tryz.prog 67 5=some (9,none):=by kernel_rfl
theorem fo67_6:fo Tryz.prog 67 6=some (10,none):=by kernel_rfl
theorem fo67_7:fo Tryz.prog 67 7=some (11,some 3):=by kernel_rfl
theorem fo67_8:fo Tryz.prog 67 8=some (14,none):=by kernel_rfl
theorem fo67_9:fo Tryz.prog 67 9=some (15,none):=by kernel_rfl
theorem fo78_0:fo Tryz.prog 78 0=some (0,none):=by kernel_rfl
theorem fo82_0:fo Tryz.prog 82 0=some (0,none):=by kernel_rfl
theorem fo82_1:fo Tryz.prog 82 1=some (1,none):=by kernel_rfl
theorem fo82_2:fo Tryz.prog 82 2=some (2,none):=by kernel_rfl
theorem fo82_3:fo Tryz.prog 82 3=some (3,none):=by kernel_rfl
theorem fo82_4:fo Tryz.prog 82 4=some (4,none):=by kernel_rfl
theorem fo82_5:fo Tryz.prog 82 5=some (5,none):=by kernel_rfl
theorem pl100:plainFn Tryz.prog 100=true:=by kernel_rfl
theorem pl101:plainFn Tryz.prog 101=true:=by kernel_rfl
theorem pl102:plainFn Tryz.prog 102=true:=by kernel_rfl
theorem pl103:plainFn Tryz.prog 103=true:=by kernel_rfl
theorem pl104:plainFn Tryz.prog 104=true:=by kernel_rfl
theorem pl105:plainFn Tryz.prog 105=true:=by kernel_rfl
theorem pl106:plainFn Tryz.prog 106=true:=by kernel_rfl
theorem pl107:plainFn Tryz.prog 107=true:=by kernel_rfl
theorem pl108:plainFn Tryz.prog 108=true:=by kernel_rfl
theorem pl109:plainFn Tryz.prog 109=true:=by kernel_rfl
theorem pl110:plainFn Tryz.prog 110=true:=by kernel_rfl
theorem pl111:plainFn Tryz.prog 111=true:=by kernel_rfl
theorem pl112:plainFn Tryz.prog 112=true:=by kernel_rfl
theorem pl113:plainFn Tryz.prog 113=true:=by kernel_rfl
theorem pl114:plainFn Tryz.prog 114=true:=by kernel_rfl
theorem pl115:plainFn Tryz.prog 115=true:=by kernel_rfl
theorem pl116:plainFn Tryz.prog 116=true:=by kernel_rfl
theorem pl117:plainFn Tryz.prog 117=true:=by kernel_rfl
theorem pl118:plainFn Tryz.prog 118=true:=by kernel_rfl
theorem pl119:plainFn Tryz.prog 119=true:=by kernel_rfl
theorem pl12:plainFn Tryz.prog 12=true:=by kernel_rfl
theorem pl120:plainFn Tryz.prog 120=true:=by kernel_rfl
theorem pl121:plainFn Tryz.prog 121=true:=by kernel_rfl
theorem pl122:plainFn Tryz.prog 122=true:=by kernel_rfl
theorem pl123:plainFn Tryz.prog 123=true:=by kernel_rfl
theorem pl124:plainFn Tryz.prog 124=true:=by kernel_rfl
theorem pl125:plainFn Tryz.prog 125=true:=by kernel_rfl
theorem pl126:plainFn Tryz.prog 126=true:=by kernel_rfl
theorem pl130:plainFn Tryz.prog 130=true:=by kernel_rfl
theorem pl131:plainFn Tryz.prog 131=true:=by kernel_rfl
theorem pl132:plainFn Tryz.prog 132=true:=by kernel_rfl
theorem pl133:plainFn Tryz.prog 133=true:=by kernel_rfl
theorem pl134:plainFn Tryz.prog 134=true:=by kernel_rfl
theorem pl135:plainFn Tryz.prog 135=true:=by kernel_rfl
theorem pl136:plainFn Tryz.prog 136=true:=by kernel_rfl
theorem pl137:plainFn Tryz.prog 137=true:=by kernel_rfl
theorem pl138:plainFn Tryz.prog 138=true:=by kernel_rfl
theorem pl139:plainFn Tryz.prog 139=true:=by kernel_rfl
theorem pl14:plainFn Tryz.prog 14=true:=by kernel_rfl
theorem pl140:plainFn Tryz.prog 140=true:=by kernel_rfl
theorem pl141:plainFn Tryz.prog 141=true:=by kernel_rfl
theorem pl142:plainFn Tryz.prog 142=true:=by kernel_rfl
theorem pl143:plainFn Tryz.prog 143=true:=by kernel_rfl
theorem pl144:plainFn Tryz.prog 144=true:=by kernel_rfl
theorem pl145:plainFn Tryz.prog 145=true:=by kernel_rfl
theorem pl146:plainFn Tryz.prog 146=true:=by kernel_rfl
theorem pl147:plainFn Tryz.prog 147=true:=by kernel_rfl
theorem pl148:plainFn Tryz.prog 148=true:=by kernel_rfl
theorem pl149:plainFn Tryz.prog 149=true:=by kernel_rfl
theorem pl15:plainFn Tryz.prog 15=true:=by kernel_rfl
theorem pl150:plainFn Tryz.prog 150=true:=by kernel_rfl
theorem pl151:plainFn Tryz.prog 151=true:=by kernel_rfl
theorem pl152:plainFn Tryz.prog 152=true:=by kernel_rfl
theorem pl153:plainFn Tryz.prog 153=true:=by kernel_rfl
theorem pl154:plainFn Tryz.prog 154=true:=by kernel_rfl
theorem pl155:plainFn Tryz.prog 155=true:=by kernel_rfl
theorem pl156:plainFn Tryz.prog 156=true:=by kernel_rfl
theorem pl157:plainFn Tryz.prog 157=true:=by kernel_rfl
theorem pl158:plainFn Tryz.prog 158=true:=by kernel_rfl
theorem pl159:plainFn Tryz.prog 159=true:=by kernel_rfl
theorem pl16:plainFn Tryz.prog 16=true:=by kernel_rfl
theorem pl160:plainFn Tryz.prog 160=true:=by kernel_rfl
theorem pl161:plainFn Tryz.prog 161=true:=by kernel_rfl
theorem pl162:plainFn Tryz.prog 162=true:=by kernel_rfl
theorem pl163:plainFn Tryz.prog 163=true:=by kernel_rfl
theorem pl164:plainFn Tryz.prog 164=true:=by kernel_rfl
theorem pl165:plainFn Tryz.prog 165=true:=by kernel_rfl
theorem pl166:plainFn Tryz.prog 166=true:=by kernel_rfl
theorem pl167:plainFn Tryz.prog 167=true:=by kernel_rfl
theorem pl168:plainFn Tryz.prog 168=true:=by kernel_rfl
theorem pl169:plainFn Tryz.prog 169=true:=by kernel_rfl
theorem pl17:plainFn Tryz.prog 17=true:=by kernel_rfl
theorem pl170:plainFn Tryz.prog 170=true:=by kernel_rfl
theorem pl171:plainFn Tryz.prog 171=true:=by kernel_rfl
theorem pl172:plainFn Tryz.prog 172=true:=by kernel_rfl
theorem pl173:plainFn Tryz.prog 173=true:=by kernel_rfl
theorem pl174:plainFn Tryz.prog 174=true:=by kernel_rfl
theorem pl175:plainFn Tryz.prog 175=true:=by kernel_rfl
theorem pl176:plainFn Tryz.prog 176=true:=by kernel_rfl
theorem pl177:plainFn Tryz.prog 177=true:=by kernel_rfl
theorem pl178:plainFn Tryz.prog 178=true:=by kernel_rfl
theorem pl179:plainFn Tryz.prog 179=true:=by kernel_rfl
theorem pl18:plainFn Tryz.prog 18=true:=by kernel_rfl
theorem pl180:plainFn Tryz.prog 180=true:=by kernel_rfl
theorem pl181:plainFn Tryz.prog 181=true:=by kernel_rfl
theorem pl182:plainFn Tryz.prog 182=true:=by kernel_rfl
theorem pl183:plainFn Tryz.prog 183=true:=by kernel_rfl
theorem pl184:plainFn Tryz.prog 184=true:=by kernel_rfl
theorem pl185:plainFn Tryz.prog 185=true:=by kernel_rfl
theorem pl186:plainFn Tryz.prog 186=true:=by kernel_rfl
theorem pl187:plainFn Tryz.prog 187=true:=by kernel_rfl
theorem pl19:plainFn Tryz.prog 19=true:=by kernel_rfl
theorem pl198:plainFn Tryz.prog 198=true:=by kernel_rfl
theorem pl199:plainFn Tryz.prog 199=true:=by kernel_rfl
theorem pl20:plainFn Tryz.prog 20=true:=by kernel_rfl
theorem pl200:plainFn Tryz.prog 200=true:=by kernel_rfl
theorem pl201:plainFn Tryz.prog 201=true:=by kernel_rfl
theorem pl202:plainFn Tryz.prog 202=true:=by kernel_rfl
theorem pl203:plainFn Tryz.prog 203=true:=by kernel_rfl
theorem pl204:plainFn Tryz.prog 204=true:=by kernel_rfl
theorem pl205:plainFn Tryz.prog 205=true:=by kernel_rfl
theorem pl206:plainFn Tryz.prog 206=true:=by kernel_rfl
theorem pl207:plainFn Tryz.prog 207=true:=by kernel_rfl
theorem pl208:plainFn Tryz.prog 208=true:=by kernel_rfl
theorem pl209:plainFn Tryz.prog 209=true:=by kernel_rfl
theorem pl21:plainFn Tryz.prog 21=true:=by kernel_rfl
theorem pl210:plainFn Tryz.prog 210=true:=by kernel_rfl
theorem pl211:plainFn Tryz.prog 211=true:=by kernel_rfl
theorem pl212:plainFn Tryz.prog 212=true:=by kernel_rfl
theorem pl213:plainFn Tryz.prog 213=true:=by kernel_rfl
theorem pl214:plainFn Tryz.prog 214=true:=by kernel_rfl
theorem pl215:plainFn Tryz.prog 215=true:=by kernel_rfl
theorem pl216:plainFn Tryz.prog 216=true:=by kernel_rfl
theorem pl217:plainFn Tryz.prog 217=true:=by kernel_rfl
theorem pl218:plainFn Tryz.prog 218=true:=by kernel_rfl
theorem pl219:plainFn Tryz.prog 219=true:=by kernel_rfl
theorem pl22:plainFn Tryz.prog 22=true:=by kernel_rfl
theorem pl220:plainFn Tryz.prog 220=true:=by kernel_rfl
theorem pl228:plainFn Tryz.prog 228=true:=by kernel_rfl
theorem pl229:plainFn Tryz.prog 229=true:=by kernel_rfl
theorem pl230:plainFn Tryz.prog 230=true:=by kernel_rfl
theorem pl231:plainFn Tryz.prog 231=true:=by kernel_rfl
theorem pl232:plainFn Tryz.prog 232=true:=by kernel_rfl
theorem pl233:plainFn Tryz.prog 233=true:=by kernel_rfl
theorem pl234:plainFn Tryz.prog 234=true:=by kernel_rfl
theorem pl235:plainFn Tryz.prog 235=true:=by kernel_rfl
theorem pl236:plainFn Tryz.prog 236=true:=by kernel_rfl
theorem pl237:plainFn Tryz.prog 237=true:=by kernel_rfl
theorem pl238:plainFn Tryz.prog 238=true:=by kernel_rfl
theorem pl27:plainFn Tryz.prog 27=true:=by kernel_rfl
theorem pl28:plainFn Tryz.prog 28=true:=by kernel_rfl
theorem pl29:plainFn Tryz.prog 29=true:=by kernel_rfl
theorem pl30:plainFn Tryz.prog 30=true:=by kernel_rfl
theorem pl31:plainFn Tryz.prog 31=true:=by kernel_rfl
theorem pl32:plainFn Tryz.prog 32=true:=by kernel_rfl
theorem pl33:plainFn Tryz.prog 33=true:=by kernel_rfl
theorem pl34:plainFn Tryz.prog 34=true:=by kernel_rfl
theorem pl35:plainFn Tryz.prog 35=true:=by kernel_rfl
theorem pl36:plainFn Tryz.prog 36=true:=by kernel_rfl
theorem pl37:plainFn Tryz.prog 37=true:=by kernel_rfl
theorem pl38:plainFn Tryz.prog 38=true:=by kernel_rfl
theorem pl39:plainFn Tryz.prog 39=true:=by kernel_rfl
theorem pl40:plainFn Tryz.prog 40=true:=by kernel_rfl
theorem pl41:plainFn Tryz.prog 41=true:=by kernel_rfl
theorem pl42:plainFn Tryz.prog 42=true:=by kernel_rfl
theorem pl43:plainFn Tryz.prog 43=true:=by kernel_rfl
theorem pl44:plainFn Tryz.prog 44=true:=by kernel_rfl
theorem pl45:plainFn Tryz.prog 45=true:=by kernel_rfl
theorem pl46:plainFn Tryz.prog 46=true:=by kernel_rfl
theorem pl47:plainFn Tryz.prog 47=true:=by kernel_rfl
theorem pl48:plainFn Tryz.prog 48=true:=by kernel_rfl
theorem pl49:plainFn Tryz.prog 49=true:=by kernel_rfl
theorem pl50:plainFn Tryz.prog 50=true:=by kernel_rfl
theorem pl52:plainFn Tryz.prog 52=true:=by kernel_rfl
theorem pl53:plainFn Tryz.prog 53=true:=by kernel_rfl
theorem pl54:plainFn Tryz.prog 54=true:=by kernel_rfl
theorem pl58:plainFn Tryz.prog 58=true:=by kernel_rfl
theorem pl59:plainFn Tryz.prog 59=true:=by kernel_rfl
theorem pl68:plainFn Tryz.prog 68=true:=by kernel_rfl
theorem pl69:plainFn Tryz.prog 69=true:=by kernel_rfl
theorem pl70:plainFn Tryz.prog 70=true:=by kernel_rfl
theorem pl71:plainFn Tryz.prog 71=true:=by kernel_rfl
theorem pl72:plainFn Tryz.prog 72=true:=by kernel_rfl
theorem pl73:plainFn Tryz.prog 73=true:=by kernel_rfl
theorem pl74:plainFn Tryz.prog 74=true:=by kernel_rfl
theorem pl75:plainFn Tryz.prog 75=true:=by kernel_rfl
theorem pl76:plainFn Tryz.prog 76=true:=by kernel_rfl
theorem pl77:plainFn Tryz.prog 77=true:=by kernel_rfl
theorem pl78:plainFn Tryz.prog 78=true:=by kernel_rfl
theorem pl79:plainFn Tryz.prog 79=true:=by kernel_rfl
theorem pl80:plainFn Tryz.prog 80=true:=by kernel_rfl
theorem pl81:plainFn Tryz.prog 81=true:=by kernel_rfl
theorem pl82:plainFn Tryz.prog 82=true:=by kernel_rfl
theorem pl83:plainFn Tryz.prog 83=true:=by kernel_rfl
theorem pl84:plainFn Tryz.prog 84=true:=by kernel_rfl
theorem pl85:plainFn Tryz.prog 85=true:=by kernel_rfl
theorem pl86:plainFn Tryz.prog 86=true:=by kernel_rfl
theorem pl87:plainFn Tryz.prog 87=true:=by kernel_rfl
theorem pl88:plainFn Tryz.prog 88=true:=by kernel_rfl
theorem pl89:plainFn Tryz.prog 89=true:=by kernel_rfl
theorem pl90:plainFn Tryz.prog 90=true:=by kernel_rfl
theorem pl91:plainFn Tryz.prog 91=true:=by kernel_rfl
theorem pl92:plainFn Tryz.prog 92=true:=by kernel_rfl
theorem pl93:plainFn Tryz.prog 93=true:=by kernel_rfl
theorem pl94:plainFn Tryz.prog 94=true:=by kernel_rfl
theorem pl95:plainFn Tryz.prog 95=true:=by kernel_rfl
theorem pl96:plainFn Tryz.prog 96=true:=by kernel_rfl
theorem pl97:plainFn Tryz.prog 97=true:=by kernel_rfl
theorem pl98:plainFn Tryz.prog 98=true:=by kernel_rfl
theorem pl99:plainFn Tryz.prog 99=true:=by kernel_rfl
theorem sT102:SlT Tryz.prog 102 DMsg:=SlT.of (b:=16) (by kernel_rfl) rfl
theorem sT190:SlT Tryz.prog 190 Bool:=SlT.of (b:=1) (by kernel_rfl) rfl
theorem sT25:SlT Tryz.prog 25 DPart:=SlT.of (b:=224) (by kernel_rfl) rfl
theorem sT52:SlT Tryz.prog 52 Int:=SlT.of (b:=8) (by kernel_rfl) rfl
theorem sT59:SlT Tryz.prog 59 DRes:=SlT.of (b:=40) (by kernel_rfl) rfl
theorem sT60:SlT Tryz.prog 60 DObj:=SlT.of (b:=152) (by kernel_rfl) rfl
theorem sT65:SlT Tryz.prog 65 DTap:=SlT.of (b:=48) (by kernel_rfl) rfl
theorem sT76:SlT Tryz.prog 76 DTree:=SlT.of (b:=24) (by kernel_rfl) rfl
theorem sTP60:SlT Tryz.prog 60 DObjP:=SlT.of (b:=152) (by kernel_rfl) rfl
theorem sTV76:SlT Tryz.prog 76 DTreeV:=SlT.of (b:=24) (by kernel_rfl) rfl
theorem sz104:szV Tryz.prog 104=some 13:=by kernel_rfl
theorem sz127:szV Tryz.prog 127=some 16:=by kernel_rfl
theorem sz138:szV Tryz.prog 138=some 5:=by kernel_rfl
theorem sz170:szV Tryz.prog 170=some 2:=by kernel_rfl
theorem sz209:szV Tryz.prog 209=some 5:=by kernel_rfl
theorem sz213:szV Tryz.prog 213=some 6:=by kernel_rfl
theorem sz230:szV Tryz.prog 230=some 13:=by kernel_rfl
theorem sz236:szV Tryz.prog 236=some 2:=by kernel_rfl
theorem sz3:szV Tryz.prog 3=some 1:=by kernel_rfl
theorem sz4:szV Tryz.prog 4=some 1:=by kernel_rfl
theorem sz67:szV Tryz.prog 67=some 16:=by kernel_rfl
theorem sz78:szV Tryz.prog 78=some 1:=by kernel_rfl
theorem sz82:szV Tryz.prog 82=some 6:=by kernel_rfl
theorem zv104:zeroV Tryz.prog 104=some (.agg #[.int .i64 0,.int .i64 0,.int .i64 0,.int .i64 0,.int .i64 0,.int .i64 0,.int .i64 0,.int .i64 0,.int .i64 0,.bool false,.slice none 0 0,.slice none 0 0,.slice none 0 0]):=by kernel_rfl
theorem zv138:zeroV Tryz.prog 138=some (.agg #[.bool false,.int .i64 0,.int .i64 0,.int .i64 0,.int .i64 0]):=by kernel_rfl
theorem zv170:zeroV Tryz.prog 170=some (.agg #[.int .i64 0,.int .i64 0]):=by kernel_rfl
theorem zv27:zeroV Tryz.prog 27=some (.agg #[.int .i64 0,.slice none 0 0]):=by kernel_rfl
theorem zv54:zeroV Tryz.prog 54=some (.agg #[.slice none 0 0]):=by kernel_rfl
theorem zv56:zeroV Tryz.prog 56=some (.agg #[.int .i64 0,.int .i64 0,.int .i64 0]):=by kernel_rfl
theorem zv62:zeroV Tryz.prog 62=some (.agg #[.int .i64 0,.int .i64 0,.int .i64 0,.slice none 0 0]):=by kernel_rfl
theorem zv64:zeroV Tryz.prog 64=some (.agg #[.slice none 0 0,.int .i64 0,.int .i64 0,.int .i64 0,.slice none 0 0]):=by kernel_rfl
theorem zv67:zeroV Tryz.prog 67=some (.agg #[.slice none 0 0,.slice none 0 0,.slice none 0 0,.slice none 0 0,.int .i64 0,.int .i64 0,.int .i64 0,.slice none 0 0,.slice none 0 0,.int .i64 0,.int .i64 0,.int .i64 0,.int .i64 0,.int .i64 0,.int .i64 0,.int .i64 0]):=by kernel_rfl
theorem zv78:zeroV Tryz.prog 78=some (.agg #[.slice none 0 0]):=by kernel_rfl
theorem zv82:zeroV Tryz.prog 82=some (.agg #[.int .i64 0,.int .i64 0,.int .i64 0,.int .i64 0,.int .i64 0,.int .i64 0]):=by kernel_rfl
instance:AgC Tryz.prog 102 none:=⟨ag102⟩
instance:AgC Tryz.prog 104 (some 13):=⟨ag104⟩
instance:AgC Tryz.prog 118 (some 1):=⟨ag118⟩
instance:AgC Tryz.prog 119 none:=⟨ag119⟩
instance:AgC Tryz.prog 120 none:=⟨ag120⟩
instance:AgC Tryz.prog 121 (some 4):=⟨ag121⟩
instance:AgC Tryz.prog 123 (some 5):=⟨ag123⟩
instance:AgC Tryz.prog 124 none:=⟨ag124⟩
instance:AgC Tryz.prog 125 (some 3):=⟨ag125⟩
instance:AgC Tryz.prog 127 (some 16):=⟨ag127⟩
instance:AgC Tryz.prog 138 (some 5):=⟨ag138⟩
instance:AgC Tryz.prog 170 (some 2):=⟨ag170⟩
instance:AgC Tryz.prog 209 (some 5):=⟨ag209⟩
instance:AgC Tryz.prog 213 (some 6):=⟨ag213⟩
instance:AgC Tryz.prog 228 none:=⟨ag228⟩
instance:AgC Tryz.prog 230 (some 13):=⟨ag230⟩
instance:AgC Tryz.prog 236 (some 2):=⟨ag236⟩
instance:AgC Tryz.prog 25 none:=⟨ag25⟩
instance:AgC Tryz.prog 27 (some 2):=⟨ag27⟩
instance:AgC Tryz.prog 3 none:=⟨ag3⟩
instance:AgC Tryz.prog 4 none:=⟨ag4⟩
instance:AgC Tryz.prog 41 none:=⟨ag41⟩
instance:AgC Tryz.prog 43 (some 2):=⟨ag43⟩
instance:AgC Tryz.prog 52 none:=⟨ag52⟩
instance:AgC Tryz.prog 54 (some 1):=⟨ag54⟩
instance:AgC Tryz.prog 56 (some 3):=⟨ag56⟩
instance:AgC Tryz.prog 59 none:=⟨ag59⟩
instance:AgC Tryz.prog 60 none:=⟨ag60⟩
instance:AgC Tryz.prog 62 (some 4):=⟨ag62⟩
instance:AgC Tryz.prog 64 (some 5):=⟨ag64⟩
instance:AgC Tryz.prog 65 none:=⟨ag65⟩
instance:AgC Tryz.prog 67 (some 16):=⟨ag67⟩
instance:AgC Tryz.prog 78 (some 1):=⟨ag78⟩
instance:AgC Tryz.prog 82 (some 6):=⟨ag82⟩
instance:FoC Tryz.prog 104 0 0 none:=⟨fo104_0⟩
instance:FoC Tryz.prog 104 1 1 none:=⟨fo104_1⟩
instance:FoC Tryz.prog 104 10 10 none:=⟨fo104_10⟩
instance:FoC Tryz.prog 104 11 11 none:=⟨fo104_11⟩
instance:FoC Tryz.prog 104 12 12 none:=⟨fo104_12⟩
instance:FoC Tryz.prog 104 2 2 none:=⟨fo104_2⟩
instance:FoC Tryz.prog 104 3 3 none:=⟨fo104_3⟩
instance:FoC Tryz.prog 104 4 4 none:=⟨fo104_4⟩
instance:FoC Tryz.prog 104 5 5 none:=⟨fo104_5⟩
instance:FoC Tryz.prog 104 6 6 none:=⟨fo104_6⟩
instance:FoC Tryz.prog 104 7 7 none:=⟨fo104_7⟩
instance:FoC Tryz.prog 104 8 8 none:=⟨fo104_8⟩
instance:FoC Tryz.prog 104 9 9 none:=⟨fo104_9⟩
instance:FoC Tryz.prog 118 0 0 none:=⟨fo118_0⟩
instance:FoC Tryz.prog 121 0 0 none:=⟨fo121_0⟩
instance:FoC Tryz.prog 121 1 1 none:=⟨fo121_1⟩
instance:FoC Tryz.prog 121 2 2 none:=⟨fo121_2⟩
instance:FoC Tryz.prog 121 3 3 none:=⟨fo121_3⟩
instance:FoC Tryz.prog 123 0 0 none:=⟨fo123_0⟩
instance:FoC Tryz.prog 123 1 1 (some 4):=⟨fo123_1⟩
instance:FoC Tryz.prog 125 0 0 none:=⟨fo125_0⟩
instance:FoC Tryz.prog 125 1 1 none:=⟨fo125_1⟩
instance:FoC Tryz.prog 125 2 2 none:=⟨fo125_2⟩
instance:FoC Tryz.prog 127 0 0 (some 1):=⟨fo127_0⟩
instance:FoC Tryz.prog 127 1 1 none:=⟨fo127_1⟩
instance:FoC Tryz.prog 127 2 2 none:=⟨fo127_2⟩
instance:FoC Tryz.prog 127 3 3 (some 5):=⟨fo127_3⟩
instance:FoC Tryz.prog 127 4 8 none:=⟨fo127_4⟩
instance:FoC Tryz.prog 127 5 9 none:=⟨fo127_5⟩
instance:FoC Tryz.prog 127 6 10 none:=⟨fo127_6⟩
instance:FoC Tryz.prog 127 7 11 (some 3):=⟨fo127_7⟩
instance:FoC Tryz.prog 127 8 14 none:=⟨fo127_8⟩
instance:FoC Tryz.prog 127 9 15 none:=⟨fo127_9⟩
instance:FoC Tryz.prog 138 0 0 none:=⟨fo138_0⟩
instance:FoC Tryz.prog 138 1 1 none:=⟨fo138_1⟩
instance:FoC Tryz.prog 138 2 2 (some 3):=⟨fo138_2⟩
instance:FoC Tryz.prog 170 0 0 none:=⟨fo170_0⟩
instance:FoC Tryz.prog 170 1 1 none:=⟨fo170_1⟩
instance:FoC Tryz.prog 209 0 0 none:=⟨fo209_0⟩
instance:FoC Tryz.prog 209 1 1 none:=⟨fo209_1⟩
instance:FoC Tryz.prog 209 2 2 (some 3):=⟨fo209_2⟩
instance:FoC Tryz.prog 213 0 0 none:=⟨fo213_0⟩
instance:FoC Tryz.prog 213 1 1 none:=⟨fo213_1⟩
instance:FoC Tryz.prog 213 2 2 none:=⟨fo213_2⟩
instance:FoC Tryz.prog 213 3 3 none:=⟨fo213_3⟩
instance:FoC Tryz.prog 213 4 4 none:=⟨fo213_4⟩
instance:FoC Tryz.prog 213 5 5 none:=⟨fo213_5⟩
instance:FoC Tryz.prog 230 0 0 none:=⟨fo230_0⟩
instance:FoC Tryz.prog 230 1 1 none:=⟨fo230_1⟩
instance:FoC Tryz.prog 230 10 10 none:=⟨fo230_10⟩
instance:FoC Tryz.prog 230 11 11 none:=⟨fo230_11⟩
instance:FoC Tryz.prog 230 12 12 none:=⟨fo230_12⟩
instance:FoC Tryz.prog 230 2 2 none:=⟨fo230_2⟩
instance:FoC Tryz.prog 230 3 3 none:=⟨fo230_3⟩
instance:FoC Tryz.prog 230 4 4 none:=⟨fo230_4⟩
instance:FoC Tryz.prog 230 5 5 none:=⟨fo230_5⟩
instance:FoC Tryz.prog 230 6 6 none:=⟨fo230_6⟩
instance:FoC Tryz.prog 230 7 7 none:=⟨fo230_7⟩
instance:FoC Tryz.prog 230 8 8 none:=⟨fo230_8⟩
instance:FoC Tryz.prog 230 9 9 none:=⟨fo230_9⟩
instance:FoC Tryz.prog 236 0 0 none:=⟨fo236_0⟩
instance:FoC Tryz.prog 236 1 1 none:=⟨fo236_1⟩
instance:FoC Tryz.prog 27 0 0 none:=⟨fo27_0⟩
instance:FoC Tryz.prog 27 1 1 none:=⟨fo27_1⟩
instance:FoC Tryz.prog 43 0 0 none:=⟨fo43_0⟩
instance:FoC Tryz.prog 43 1 1 none:=⟨fo43_1⟩
instance:FoC Tryz.prog 54 0 0 none:=⟨fo54_0⟩
instance:FoC Tryz.prog 56 0 0 none:=⟨fo56_0⟩
instance:FoC Tryz.prog 56 1 1 none:=⟨fo56_1⟩
instance:FoC Tryz.prog 56 2 2 none:=⟨fo56_2⟩
instance:FoC Tryz.prog 62 0 0 none:=⟨fo62_0⟩
instance:FoC Tryz.prog 62 1 1 none:=⟨fo62_1⟩
instance:FoC Tryz.prog 62 2 2 none:=⟨fo62_2⟩
instance:FoC Tryz.prog 62 3 3 none:=⟨fo62_3⟩
instance:FoC Tryz.prog 64 0 0 none:=⟨fo64_0⟩
instance:FoC Tryz.prog 64 1 1 (some 4):=⟨fo64_1⟩
instance:FoC Tryz.prog 67 0 0 (some 1):=⟨fo67_0⟩
instance:FoC Tryz.prog 67 1 1 none:=⟨fo67_1⟩
instance:FoC Tryz.prog 67 2 2 none:=⟨fo67_2⟩
instance:FoC Tryz.prog 67 3 3 (some 5):=⟨fo67_3⟩
instance:FoC Tryz.prog 67 4 8 none:=⟨fo67_4⟩
instance:FoC Tryz.prog 67 5 9 none:=⟨fo67_5⟩
instance:FoC Tryz.prog 67 6 10 none:=⟨fo67_6⟩
instance:FoC Tryz.prog 67 7 11 (some 3):=⟨fo67_7⟩
instance:FoC Tryz.prog 67 8 14 none:=⟨fo67_8⟩
instance:FoC Tryz.prog 67 9 15 none:=⟨fo67_9⟩
instance:FoC Tryz.prog 78 0 0 none:=⟨fo78_0⟩
instance:FoC Tryz.prog 82 0 0 none:=⟨fo82_0⟩
instance:FoC Tryz.prog 82 1 1 none:=⟨fo82_1⟩
instance:FoC Tryz.prog 82 2 2 none:=⟨fo82_2⟩
instance:FoC Tryz.prog 82 3 3 none:=⟨fo82_3⟩
instance:FoC Tryz.prog 82 4 4 none:=⟨fo82_4⟩
instance:FoC Tryz.prog 82 5 5 none:=⟨fo82_5⟩
instance:PlC Tryz.prog 100:=⟨pl100⟩
instance:PlC Tryz.prog 101:=⟨pl101⟩
instance:PlC Tryz.prog 102:=⟨pl102⟩
instance:PlC Tryz.prog 103:=⟨pl103⟩
instance:PlC Tryz.prog 104:=⟨pl104⟩
instance:PlC Tryz.prog 105:=⟨pl105⟩
instance:PlC Tryz.prog 106:=⟨pl106⟩
instance:PlC Tryz.prog 107:=⟨pl107⟩
instance:PlC Tryz.prog 108:=⟨pl108⟩
instance:PlC Tryz.prog 109:=⟨pl109⟩
instance:PlC Tryz.prog 110:=⟨pl110⟩
instance:PlC Tryz.prog 111:=⟨pl111⟩
instance:PlC Tryz.prog 112:=⟨pl112⟩
instance:PlC Tryz.prog 113:=⟨pl113⟩
instance:PlC Tryz.prog 114:=⟨pl114⟩
instance:PlC Tryz.prog 115:=⟨pl115⟩
instance:PlC Tryz.prog 116:=⟨pl116⟩
instance:PlC Tryz.prog 117:=⟨pl117⟩
instance:PlC Tryz.prog 118:=⟨pl118⟩
instance:PlC Tryz.prog 119:=⟨pl119⟩
instance:PlC Tryz.prog 12:=⟨pl12⟩
instance:PlC Tryz.prog 120:=⟨pl120⟩
instance:PlC Tryz.prog 121:=⟨pl121⟩
instance:PlC Tryz.prog 122:=⟨pl122⟩
instance:PlC Tryz.prog 123:=⟨pl123⟩
instance:PlC Tryz.prog 124:=⟨pl124⟩
instance:PlC Tryz.prog 125:=⟨pl125⟩
instance:PlC Tryz.prog 126:=⟨pl126⟩
instance:PlC Tryz.prog 130:=⟨pl130⟩
instance:PlC Tryz.prog 131:=⟨pl131⟩
instance:PlC Tryz.prog 132:=⟨pl132⟩
instance:PlC Tryz.prog 133:=⟨pl133⟩
instance:PlC Tryz.prog 134:=⟨pl134⟩
instance:PlC Tryz.prog 135:=⟨pl135⟩
instance:PlC Tryz.prog 136:=⟨pl136⟩
instance:PlC Tryz.prog 137:=⟨pl137⟩
instance:PlC Tryz.prog 138:=⟨pl138⟩
instance:PlC Tryz.prog 139:=⟨pl139⟩
instance:PlC Tryz.prog 14:=⟨pl14⟩
instance:PlC Tryz.prog 140:=⟨pl140⟩
instance:PlC Tryz.prog 141:=⟨pl141⟩
instance:PlC Tryz.prog 142:=⟨pl142⟩
instance:PlC Tryz.prog 143:=⟨pl143⟩
instance:PlC Tryz.prog 144:=⟨pl144⟩
instance:PlC Tryz.prog 145:=⟨pl145⟩
instance:PlC Tryz.prog 146:=⟨pl146⟩
instance:PlC Tryz.prog 147:=⟨pl147⟩
instance:PlC Tryz.prog 148:=⟨pl148⟩
instance:PlC Tryz.prog 149:=⟨pl149⟩
instance:PlC Tryz.prog 15:=⟨pl15⟩
instance:PlC Tryz.prog 150:=⟨pl150⟩
instance:PlC Tryz.prog 151:=⟨pl151⟩
instance:PlC Tryz.prog 152:=⟨pl152⟩
instance:PlC Tryz.prog 153:=⟨pl153⟩
instance:PlC Tryz.prog 154:=⟨pl154⟩
instance:PlC Tryz.prog 155:=⟨pl155⟩
instance:PlC Tryz.prog 156:=⟨pl156⟩
instance:PlC Tryz.prog 157:=⟨pl157⟩
instance:PlC Tryz.prog 158:=⟨pl158⟩
instance:PlC Tryz.prog 159:=⟨pl159⟩
instance:PlC Tryz.prog 16:=⟨pl16⟩
instance:PlC Tryz.prog 160:=⟨pl160⟩
instance:PlC Tryz.prog 161:=⟨pl161⟩
instance:PlC Tryz.prog 162:=⟨pl162⟩
instance:PlC Tryz.prog 163:=⟨pl163⟩
instance:PlC Tryz.prog 164:=⟨pl164⟩
instance:PlC Tryz.prog 165:=⟨pl165⟩
instance:PlC Tryz.prog 166:=⟨pl166⟩
instance:PlC Tryz.prog 167:=⟨pl167⟩
instance:PlC Tryz.prog 168:=⟨pl168⟩
instance:PlC Tryz.prog 169:=⟨pl169⟩
instance:PlC Tryz.prog 17:=⟨pl17⟩
instance:PlC Tryz.prog 170:=⟨pl170⟩
instance:PlC Tryz.prog 171:=⟨pl171⟩
instance:PlC Tryz.prog 172:=⟨pl172⟩
instance:PlC Tryz.prog 173:=⟨pl173⟩
instance:PlC Tryz.prog 174:=⟨pl174⟩
instance:PlC Tryz.prog 175:=⟨pl175⟩
instance:PlC Tryz.prog 176:=⟨pl176⟩
instance:PlC Tryz.prog 177:=⟨pl177⟩
instance:PlC Tryz.prog 178:=⟨pl178⟩
instance:PlC Tryz.prog 179:=⟨pl179⟩
instance:PlC Tryz.prog 18:=⟨pl18⟩
instance:PlC Tryz.prog 180:=⟨pl180⟩
instance:PlC Tryz.prog 181:=⟨pl181⟩
instance:PlC Tryz.prog 182:=⟨pl182⟩
instance:PlC Tryz.prog 183:=⟨pl183⟩
instance:PlC Tryz.prog 184:=⟨pl184⟩
instance:PlC Tryz.prog 185:=⟨pl185⟩
instance:PlC Tryz.prog 186:=⟨pl186⟩
instance:PlC Tryz.prog 187:=⟨pl187⟩
instance:PlC Tryz.prog 19:=⟨pl19⟩
instance:PlC Tryz.prog 198:=⟨pl198⟩
instance:PlC Tryz.prog 199:=⟨pl199⟩
instance:PlC Tryz.prog 20:=⟨pl20⟩
instance:PlC Tryz.prog 200:=⟨pl200⟩
instance:PlC Tryz.prog 201:=⟨pl201⟩
instance:PlC Tryz.prog 202:=⟨pl202⟩
instance:PlC Tryz.prog 203:=⟨pl203⟩
instance:PlC Tryz.prog 204:=⟨pl204⟩
instance:PlC Tryz.prog 205:=⟨pl205⟩
instance:PlC Tryz.prog 206:=⟨pl206⟩
instance:PlC Tryz.prog 207:=⟨pl207⟩
instance:PlC Tryz.prog 208:=⟨pl208⟩
instance:PlC Tryz.prog 209:=⟨pl209⟩
instance:PlC Tryz.prog 21:=⟨pl21⟩
instance:PlC Tryz.prog 210:=⟨pl210⟩
instance:PlC Tryz.prog 211:=⟨pl211⟩
instance:PlC Tryz.prog 212:=⟨pl212⟩
instance:PlC Tryz.prog 213:=⟨pl213⟩
instance:PlC Tryz.prog 214:=⟨pl214⟩
instance:PlC Tryz.prog 215:=⟨pl215⟩
instance:PlC Tryz.prog 216:=⟨pl216⟩
instance:PlC Tryz.prog 217:=⟨pl217⟩
instance:PlC Tryz.prog 218:=⟨pl218⟩
instance:PlC Tryz.prog 219:=⟨pl219⟩
instance:PlC Tryz.prog 22:=⟨pl22⟩
instance:PlC Tryz.prog 220:=⟨pl220⟩
instance:PlC Tryz.prog 228:=⟨pl228⟩
instance:PlC Tryz.prog 229:=⟨pl229⟩
instance:PlC Tryz.prog 230:=⟨pl230⟩
instance:PlC Tryz.prog 231:=⟨pl231⟩
instance:PlC Tryz.prog 232:=⟨pl232⟩
instance:PlC Tryz.prog 233:=⟨pl233⟩
instance:PlC Tryz.prog 234:=⟨pl234⟩
instance:PlC Tryz.prog 235:=⟨pl235⟩
instance:PlC Tryz.prog 236:=⟨pl236⟩
instance:PlC Tryz.prog 237:=⟨pl237⟩
instance:PlC Tryz.prog 238:=⟨pl238⟩
instance:PlC Tryz.prog 27:=⟨pl27⟩
instance:PlC Tryz.prog 28:=⟨pl28⟩
instance:PlC Tryz.prog 29:=⟨pl29⟩
instance:PlC Tryz.prog 30:=⟨pl30⟩
instance:PlC Tryz.prog 31:=⟨pl31⟩
instance:PlC Tryz.prog 32:=⟨pl32⟩
instance:PlC Tryz.prog 33:=⟨pl33⟩
instance:PlC Tryz.prog 34:=⟨pl34⟩
instance:PlC Tryz.prog 35:=⟨pl35⟩
instance:PlC Tryz.prog 36:=⟨pl36⟩
instance:PlC Tryz.prog 37:=⟨pl37⟩
instance:PlC Tryz.prog 38:=⟨pl38⟩
instance:PlC Tryz.prog 39:=⟨pl39⟩
instance:PlC Tryz.prog 40:=⟨pl40⟩
instance:PlC Tryz.prog 41:=⟨pl41⟩
instance:PlC Tryz.prog 42:=⟨pl42⟩
instance:PlC Tryz.prog 43:=⟨pl43⟩
instance:PlC Tryz.prog 44:=⟨pl44⟩
instance:PlC Tryz.prog 45:=⟨pl45⟩
instance:PlC Tryz.prog 46:=⟨pl46⟩
instance:PlC Tryz.prog 47:=⟨pl47⟩
instance:PlC Tryz.prog 48:=⟨pl48⟩
instance:PlC Tryz.prog 49:=⟨pl49⟩
instance:PlC Tryz.prog 50:=⟨pl50⟩
instance:PlC Tryz.prog 52:=⟨pl52⟩
instance:PlC Tryz.prog 53:=⟨pl53⟩
instance:PlC Tryz.prog 54:=⟨pl54⟩
instance:PlC Tryz.prog 58:=⟨pl58⟩
instance:PlC Tryz.prog 59:=⟨pl59⟩
instance:PlC Tryz.prog 68:=⟨pl68⟩
instance:PlC Tryz.prog 69:=⟨pl69⟩
instance:PlC Tryz.prog 70:=⟨pl70⟩
instance:PlC Tryz.prog 71:=⟨pl71⟩
instance:PlC Tryz.prog 72:=⟨pl72⟩
instance:PlC Tryz.prog 73:=⟨pl73⟩
instance:PlC Tryz.prog 74:=⟨pl74⟩
instance:PlC Tryz.prog 75:=⟨pl75⟩
instance:PlC Tryz.prog 76:=⟨pl76⟩
instance:PlC Tryz.prog 77:=⟨pl77⟩
instance:PlC Tryz.prog 78:=⟨pl78⟩
instance:PlC Tryz.prog 79:=⟨pl79⟩
instance:PlC Tryz.prog 80:=⟨pl80⟩
instance:PlC Tryz.prog 81:=⟨pl81⟩
instance:PlC Tryz.prog 82:=⟨pl82⟩
instance:PlC Tryz.prog 83:=⟨pl83⟩
instance:PlC Tryz.prog 84:=⟨pl84⟩
instance:PlC Tryz.prog 85:=⟨pl85⟩
instance:PlC Tryz.prog 86:=⟨pl86⟩
instance:PlC Tryz.prog 87:=⟨pl87⟩
instance:PlC Tryz.prog 88:=⟨pl88⟩
instance:PlC Tryz.prog 89:=⟨pl89⟩
instance:PlC Tryz.prog 90:=⟨pl90⟩
instance:PlC Tryz.prog 91:=⟨pl91⟩
instance:PlC Tryz.prog 92:=⟨pl92⟩
instance:PlC Tryz.prog 93:=⟨pl93⟩
instance:PlC Tryz.prog 94:=⟨pl94⟩
instance:PlC Tryz.prog 95:=⟨pl95⟩
instance:PlC Tryz.prog 96:=⟨pl96⟩
instance:PlC Tryz.prog 97:=⟨pl97⟩
instance:PlC Tryz.prog 98:=⟨pl98⟩
instance:PlC Tryz.prog 99:=⟨pl99⟩
instance:ZvC Tryz.prog 104:=⟨_,zv104⟩
instance:ZvC Tryz.prog 138:=⟨_,zv138⟩
instance:ZvC Tryz.prog 170:=⟨_,zv170⟩
instance:ZvC Tryz.prog 27:=⟨_,zv27⟩
instance:ZvC Tryz.prog 54:=⟨_,zv54⟩
instance:ZvC Tryz.prog 56:=⟨_,zv56⟩
instance:ZvC Tryz.prog 62:=⟨_,zv62⟩
instance:ZvC Tryz.prog 64:=⟨_,zv64⟩
instance:ZvC Tryz.prog 67:=⟨_,zv67⟩
instance:ZvC Tryz.prog 78:=⟨_,zv78⟩
instance:ZvC Tryz.prog 82:=⟨_,zv82⟩
instance:UnC Tryz.prog 22 (.slice 5):=⟨Tryz.underlying22⟩
instance:UnC Tryz.prog 25 (.slice 67):=⟨Tryz.underlying25⟩
instance:UnC Tryz.prog 29 (.slice 58):=⟨Tryz.underlying29⟩
instance:UnC Tryz.prog 38 (.slice 37):=⟨Tryz.underlying38⟩
instance:UnC Tryz.prog 41 (.slice 127):=⟨Tryz.underlying41⟩
instance:UnC Tryz.prog 52 (.slice 3):=⟨Tryz.underlying52⟩
instance:UnC Tryz.prog 59 (.slice 138):=⟨Tryz.underlying59⟩
instance:UnC Tryz.prog 60 (.slice 104):=⟨Tryz.underlying60⟩
instance:UnC Tryz.prog 65 (.slice 82):=⟨Tryz.underlying65⟩
instance:UnC Tryz.prog 76 (.slice 78):=⟨Tryz.underlying76⟩
instance:UnC Tryz.prog 102 (.slice 170):=⟨Tryz.underlying102⟩
instance:UnC Tryz.prog 119 (.slice 209):=⟨Tryz.underlying119⟩
instance:UnC Tryz.prog 120 (.slice 230):=⟨Tryz.underlying120⟩
instance:UnC Tryz.prog 124 (.slice 213):=⟨Tryz.underlying124⟩
instance:UnC Tryz.prog 190 (.slice 4):=⟨Tryz.underlying190⟩
instance:UnC Tryz.prog 228 (.slice 236):=⟨Tryz.underlying228⟩
end Go.Kx
