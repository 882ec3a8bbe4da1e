/- Closed facts of the program's types and functions. Printed by drive.py. -/
import Derived.Test.YtikeaiogpfjdnaaGreatProg
import Derived.Test.YtikeaiogpfjdnaaGreatGo
import Derived.Test.YtikeaiogpfjdnaaGreatDat
import Derived.Test.YtikeaiogpfjdnaaGreatDel
import Derived.Test.YtikeaiogpfjdnaaGreatTap
import Derived.Test.YtikeaiogpfjdnaaGreatAl
namespace Go.Kx
open Go Go.RowKit Go.Proofs
set_option maxRecDepth 10000
set_option maxHeartbeats 8000000
set_option linter.unusedVariables false
set_option linter.unusedSimpArgs false
theorem ag126:aggV Tryz.prog 126=some (some 6):=by kernel_rfl
theorem ag131:aggV Tryz.prog 131=some (some 5):=by kernel_rfl
theorem ag189:aggV Tryz.prog 189=some (some 2):=by kernel_rfl
theorem ag192:aggV Tryz.prog 192=some (some 1):=by kernel_rfl
theorem ag22:aggV Tryz.prog 22=some none:=by kernel_rfl
theorem ag24:aggV Tryz.prog 24=some none:=by kernel_rfl
theorem ag26:aggV Tryz.prog 26=some (some 1):=by kernel_rfl
theorem ag27:aggV Tryz.prog 27=some none:=by kernel_rfl
theorem ag28:aggV Tryz.prog 28=some none:=by kernel_rfl
theorem ag3:aggV Tryz.prog 3=some none:=by kernel_rfl
theorem ag30:aggV Tryz.prog 30=some (some 4):=by kernel_rfl
theorem ag32:aggV Tryz.prog 32=some (some 5):=by kernel_rfl
theorem ag33:aggV Tryz.prog 33=some none:=by kernel_rfl
theorem ag35:aggV Tryz.prog 35=some (some 3):=by kernel_rfl
theorem ag37:aggV Tryz.prog 37=some (some 16):=by kernel_rfl
theorem ag4:aggV Tryz.prog 4=some none:=by kernel_rfl
theorem ag42:aggV Tryz.prog 42=some none:=by kernel_rfl
theorem ag44:aggV Tryz.prog 44=some (some 13):=by kernel_rfl
theorem ag46:aggV Tryz.prog 46=some (some 5):=by kernel_rfl
theorem ag5:aggV Tryz.prog 5=some none:=by kernel_rfl
theorem ag59:aggV Tryz.prog 59=some (some 6):=by kernel_rfl
theorem ag75:aggV Tryz.prog 75=some none:=by kernel_rfl
theorem ag77:aggV Tryz.prog 77=some (some 2):=by kernel_rfl
theorem ag87:aggV Tryz.prog 87=some (some 2):=by kernel_rfl
theorem eg126:Program.eqGuardType Tryz.prog Tryz.prog.depth 126=false:=by kernel_rfl
theorem eg189:Program.eqGuardType Tryz.prog Tryz.prog.depth 189=false:=by kernel_rfl
theorem eg35:Program.eqGuardType Tryz.prog Tryz.prog.depth 35=false:=by kernel_rfl
theorem eg46:Program.eqGuardType Tryz.prog Tryz.prog.depth 46=false:=by kernel_rfl
theorem eq126:∀ (a b:DTap) (w:World),(Op.equalIn 10000 126 (.agg #[.int .i64 a.res,.int .i64 a.toPart,.int .i64 a.toRes,.int .i64 a.which,.int .i64 a.kind,.int .i64 a.rate]) (.agg #[.int .i64 b.res,.int .i64 b.toPart,.int .i64 b.toRes,.int .i64 b.which,.int .i64 b.kind,.int .i64 b.rate])).run Tryz.prog w=.ok (decide (a=b)) w:=fun a b w=>EqT.top (n:=1) (EqT.agg (n:=0) Tryz.underlying126 (by kernel_rfl) (EqF.one rfl ag3 rfl rfl (EqT.int Tryz.underlying3) (EqF.one rfl ag3 rfl rfl (EqT.int Tryz.underlying3) (EqF.one rfl ag3 rfl rfl (EqT.int Tryz.underlying3) (EqF.one rfl ag3 rfl rfl (EqT.int Tryz.underlying3) (EqF.one rfl ag3 rfl rfl (EqT.int Tryz.underlying3) (EqF.one rfl ag3 rfl rfl (EqT.int Tryz.underlying3) EqF.nil))))))) (by decide) (by
  obtain ⟨x0,x1,x2,x3,x4,x5⟩:=a
  obtain ⟨y0,y1,y2,y3,y4,y5⟩:=b
  simp [DTap.mk.injEq,Bool.beq_eq_decide_eq,Bool.decide_and]) w
theorem eq189:∀ (a b:DMsg) (w:World),(Op.equalIn 10000 189 (.agg #[.int .i64 a.src,.int .i64 a.n]) (.agg #[.int .i64 b.src,.int .i64 b.n])).run Tryz.prog w=.ok (decide (a=b)) w:=fun a b w=>EqT.top (n:=1) (EqT.agg (n:=0) Tryz.underlying189 (by kernel_rfl) (EqF.one rfl ag3 rfl rfl (EqT.int Tryz.underlying3) (EqF.one rfl ag3 rfl rfl (EqT.int Tryz.underlying3) EqF.nil))) (by decide) (by
  obtain ⟨x0,x1⟩:=a
  obtain ⟨y0,y1⟩:=b
  simp [DMsg.mk.injEq,Bool.beq_eq_decide_eq,Bool.decide_and]) w
theorem eq35:∀ (a b:DAmt) (w:World),(Op.equalIn 10000 35 (.agg #[.int .i64 a.pages,.int .i64 a.rent,.int .i64 a.cpu]) (.agg #[.int .i64 b.pages,.int .i64 b.rent,.int .i64 b.cpu])).run Tryz.prog w=.ok (decide (a=b)) w:=fun a b w=>EqT.top (n:=1) (EqT.agg (n:=0) Tryz.underlying35 (by kernel_rfl) (EqF.one rfl ag3 rfl rfl (EqT.int Tryz.underlying3) (EqF.one rfl ag3 rfl rfl (EqT.int Tryz.underlying3) (EqF.one rfl ag3 rfl rfl (EqT.int Tryz.underlying3) EqF.nil)))) (by decide) (by
  obtain ⟨x0,x1,x2⟩:=a
  obtain ⟨y0,y1,y2⟩:=b
  simp [DAmt.mk.injEq,Bool.beq_eq_decide_eq,Bool.decide_and]) w
theorem eq46:∀ (a b:DRes) (w:World),(Op.equalIn 10000 46 (.agg #[.bool a.live,.int .i64 a.parent,.int .i64 a.bal.pages,.int .i64 a.bal.rent,.int .i64 a.bal.cpu]) (.agg #[.bool b.live,.int .i64 b.parent,.int .i64 b.bal.pages,.int .i64 b.bal.rent,.int .i64 b.bal.cpu])).run Tryz.prog w=.ok (decide (a=b)) w:=fun a b w=>EqT.top (n:=2) (EqT.agg (n:=1) Tryz.underlying46 (by kernel_rfl) (EqF.one rfl ag4 rfl rfl (EqT.bool Tryz.underlying4) (EqF.one rfl ag3 rfl rfl (EqT.int Tryz.underlying3) (EqF.more rfl ag35 (EqT.agg (n:=0) Tryz.underlying35 (by kernel_rfl) (EqF.one rfl ag3 rfl rfl (EqT.int Tryz.underlying3) (EqF.one rfl ag3 rfl rfl (EqT.int Tryz.underlying3) (EqF.one rfl ag3 rfl rfl (EqT.int Tryz.underlying3) EqF.nil)))) EqF.nil)))) (by decide) (by
  obtain ⟨x0,x1,⟨x2,x3,x4⟩⟩:=a
  obtain ⟨y0,y1,⟨y2,y3,y4⟩⟩:=b
  simp [DRes.mk.injEq,DAmt.mk.injEq,Bool.beq_eq_decide_eq,Bool.decide_and]) w
theorem fo126_0:fo Tryz.prog 126 0=some (0,none):=by kernel_rfl
theorem fo126_1:fo Tryz.prog 126 1=some (1,none):=by kernel_rfl
theorem fo126_2:fo Tryz.prog 126 2=some (2,none):=by kernel_rfl
theorem fo126_3:fo Tryz.prog 126 3=some (3,none):=by kernel_rfl
theorem fo126_4:fo Tryz.prog 126 4=some (4,none):=by kernel_rfl
theorem fo126_5:fo Tryz.prog 126 5=some (5,none):=by kernel_rfl
theorem fo131_0:fo Tryz.prog 131 0=some (0,some 1):=by kernel_rfl
theorem fo131_1:fo Tryz.prog 131 1=some (1,none):=by kernel_rfl
theorem fo131_2:fo Tryz.prog 131 2=some (2,some 3):=by kernel_rfl
theorem fo164_0:fo Tryz.prog 164 0=some (0,none):=by kernel_rfl
theorem fo164_1:fo Tryz.prog 164 1=some (1,none):=by kernel_rfl
theorem fo164_2:fo Tryz.prog 164 2=some (2,none):=by kernel_rfl
theorem fo189_0:fo Tryz.prog 189 0=some (0,none):=by kernel_rfl
theorem fo189_1:fo Tryz.prog 189 1=some (1,none):=by kernel_rfl
theorem fo192_0:fo Tryz.prog 192 0=some (0,none):=by kernel_rfl
theorem fo26_0:fo Tryz.prog 26 0=some (0,none):=by kernel_rfl
theorem fo30_0:fo Tryz.prog 30 0=some (0,none):=by kernel_rfl
theorem fo30_1:fo Tryz.prog 30 1=some (1,none):=by kernel_rfl
theorem fo30_2:fo Tryz.prog 30 2=some (2,none):=by kernel_rfl
theorem fo30_3:fo Tryz.prog 30 3=some (3,none):=by kernel_rfl
theorem fo32_0:fo Tryz.prog 32 0=some (0,none):=by kernel_rfl
theorem fo32_1:fo Tryz.prog 32 1=some (1,some 4):=by kernel_rfl
theorem fo35_0:fo Tryz.prog 35 0=some (0,none):=by kernel_rfl
theorem fo35_1:fo Tryz.prog 35 1=some (1,none):=by kernel_rfl
theorem fo35_2:fo Tryz.prog 35 2=some (2,none):=by kernel_rfl
theorem fo37_0:fo Tryz.prog 37 0=some (0,some 1):=by kernel_rfl
theorem fo37_1:fo Tryz.prog 37 1=some (1,none):=by kernel_rfl
theorem fo37_2:fo Tryz.prog 37 2=some (2,none):=by kernel_rfl
theorem fo37_3:fo Tryz.prog 37 3=some (3,some 5):=by kernel_rfl
theorem fo37_4:fo Tryz.prog 37 4=some (8,none):=by kernel_rfl
theorem fo37_5:fo Tryz.prog 37 5=some (9,none):=by kernel_rfl
theorem fo37_6:fo Tryz.prog 37 6=some (10,none):=by kernel_rfl
theorem fo37_7:fo Tryz.prog 37 7=some (11,some 3):=by kernel_rfl
theorem fo37_8:fo Tryz.prog 37 8=some (14,none):=by kernel_rfl
theorem fo37_9:fo Tryz.prog 37 9=some (15,none):=by kernel_rfl
theorem fo44_0:fo Tryz.prog 44 0=some (0,none):=by kernel_rfl
theorem fo44_1:fo Tryz.prog 44 1=some (1,none):=by kernel_rfl
theorem fo44_10:fo Tryz.prog 44 10=some (10,none):=by kernel_rfl
theorem fo44_11:fo Tryz.prog 44 11=some (11,none):=by kernel_rfl
theorem fo44_12:fo Tryz.prog 44 12=some (12,none):=by kernel_rfl
theorem fo44_2:fo Tryz.prog 44 2=some (2,none):=by kernel_rfl
theorem fo44_3:fo Tryz.prog 44 3=some (3,none):=by kernel_rfl
theorem fo44_4:fo Tryz.prog 44 4=some (4,none):=by kernel_rfl
theorem fo44_5:fo Tryz.prog 44 5=some (5,none):=by kernel_rfl
theorem fo44_6:fo Tryz.prog 44 6=some (6,none):=by kernel_rfl
theorem fo44_7:fo Tryz.prog 44 7=some (7,none):=by kernel_rfl
theorem fo44_8:fo Tryz.prog 44 8=some (8,none):=by kernel_rfl
theorem fo44_9:fo Tryz.prog 44 9=some (9,none):=by kernel_rfl
theorem fo46_0:fo Tryz.prog 46 0=some (0,none):=by kernel_rfl
theorem fo46_1:fo Tryz.prog 46 1=some (1,none):=by kernel_rfl
theorem fo46_2:fo Tryz.prog 46 2=some (2,some 3):=by kernel_rfl
theorem fo59_0:fo Tryz.prog 59 0=some (0,none):=by kernel_rfl
theorem fo59_1:fo Tryz.prog 59 1=some (1,none):=by kernel_rfl
theorem fo59_2:fo Tryz.prog 59 2=some (2,none):=by kernel_rfl
theorem fo59_3:fo Tryz.prog 59 3=some (3,none):=by kernel_rfl
theorem fo59_4:fo Tryz.prog 59 4=some (4,none):=by kernel_rfl
theorem fo59_5:fo Tryz.prog 59 5=some (5,none):=by kernel_rfl
theorem fo77_0:fo Tryz.prog 77 0=some (0,none):=by kernel_rfl
theorem fo77_1:fo Tryz.prog 77 1=some (1,none):=by kernel_rfl
theorem pl100:plainFn Tryz.prog 100=true:=by kernel_rfl
theorem pl101:plainFn Tryz.prog 101=true:=by kernel_rfl
theorem pl102:plainFn Tryz.prog 102=true:=by kernel_rfl
theorem pl103:plainFn Tryz.prog 103=true:=by kernel_rfl
theorem pl104:plainFn Tryz.prog 104=true:=by kernel_rfl
theorem pl105:plainFn Tryz.prog 105=true:=by kernel_rfl
theorem pl106:plainFn Tryz.prog 106=true:=by kernel_rfl
theorem pl107:plainFn Tryz.prog 107=true:=by kernel_rfl
theorem pl108:plainFn Tryz.prog 108=true:=by kernel_rfl
theorem pl109:plainFn Tryz.prog 109=true:=by kernel_rfl
theorem pl11:plainFn Tryz.prog 11=true:=by kernel_rfl
theorem pl110:plainFn Tryz.prog 110=true:=by kernel_rfl
theorem pl111:plainFn Tryz.prog 111=true:=by kernel_rfl
theorem pl119:plainFn Tryz.prog 119=true:=by kernel_rfl
theorem pl12:plainFn Tryz.prog 12=true:=by kernel_rfl
theorem pl124:plainFn Tryz.prog 124=true:=by kernel_rfl
theorem pl127:plainFn Tryz.prog 127=true:=by kernel_rfl
theorem pl13:plainFn Tryz.prog 13=true:=by kernel_rfl
theorem pl133:plainFn Tryz.prog 133=true:=by kernel_rfl
theorem pl134:plainFn Tryz.prog 134=true:=by kernel_rfl
theorem pl135:plainFn Tryz.prog 135=true:=by kernel_rfl
theorem pl136:plainFn Tryz.prog 136=true:=by kernel_rfl
theorem pl137:plainFn Tryz.prog 137=true:=by kernel_rfl
theorem pl138:plainFn Tryz.prog 138=true:=by kernel_rfl
theorem pl139:plainFn Tryz.prog 139=true:=by kernel_rfl
theorem pl14:plainFn Tryz.prog 14=true:=by kernel_rfl
theorem pl140:plainFn Tryz.prog 140=true:=by kernel_rfl
theorem pl141:plainFn Tryz.prog 141=true:=by kernel_rfl
theorem pl142:plainFn Tryz.prog 142=true:=by kernel_rfl
theorem pl143:plainFn Tryz.prog 143=true:=by kernel_rfl
theorem pl144:plainFn Tryz.prog 144=true:=by kernel_rfl
theorem pl145:plainFn Tryz.prog 145=true:=by kernel_rfl
theorem pl146:plainFn Tryz.prog 146=true:=by kernel_rfl
theorem pl147:plainFn Tryz.prog 147=true:=by kernel_rfl
theorem pl148:plainFn Tryz.prog 148=true:=by kernel_rfl
theorem pl149:plainFn Tryz.prog 149=true:=by kernel_rfl
theorem pl15:plainFn Tryz.prog 15=true:=by kernel_rfl
theorem pl150:plainFn Tryz.prog 150=true:=by kernel_rfl
theorem pl151:plainFn Tryz.prog 151=true:=by kernel_rfl
theorem pl152:plainFn Tryz.prog 152=true:=by kernel_rfl
theorem pl153:plainFn Tryz.prog 153=true:=by kernel_rfl
theorem pl154:plainFn Tryz.prog 154=true:=by kernel_rfl
theorem pl155:plainFn Tryz.prog 155=true:=by kernel_rfl
theorem pl156:plainFn Tryz.prog 156=true:=by kernel_rfl
theorem pl157:plainFn Tryz.prog 157=true:=by kernel_rfl
theorem pl158:plainFn Tryz.prog 158=true:=by kernel_rfl
theorem pl159:plainFn Tryz.prog 159=true:=by kernel_rfl
theorem pl16:plainFn Tryz.prog 16=true:=by kernel_rfl
theorem pl160:plainFn Tryz.prog 160=true:=by kernel_rfl
theorem pl161:plainFn Tryz.prog 161=true:=by kernel_rfl
theorem pl165:plainFn Tryz.prog 165=true:=by kernel_rfl
theorem pl166:plainFn Tryz.prog 166=true:=by kernel_rfl
theorem pl167:plainFn Tryz.prog 167=true:=by kernel_rfl
theorem pl168:plainFn Tryz.prog 168=true:=by kernel_rfl
theorem pl169:plainFn Tryz.prog 169=true:=by kernel_rfl
theorem pl17:plainFn Tryz.prog 17=true:=by kernel_rfl
theorem pl170:plainFn Tryz.prog 170=true:=by kernel_rfl
theorem pl171:plainFn Tryz.prog 171=true:=by kernel_rfl
theorem pl172:plainFn Tryz.prog 172=true:=by kernel_rfl
theorem pl173:plainFn Tryz.prog 173=true:=by kernel_rfl
theorem pl174:plainFn Tryz.prog 174=true:=by kernel_rfl
theorem pl175:plainFn Tryz.prog 175=true:=by kernel_rfl
theorem pl176:plainFn Tryz.prog 176=true:=by kernel_rfl
theorem pl177:plainFn Tryz.prog 177=true:=by kernel_rfl
theorem pl178:plainFn Tryz.prog 178=true:=by kernel_rfl
theorem pl179:plainFn Tryz.prog 179=true:=by kernel_rfl
theorem pl18:plainFn Tryz.prog 18=true:=by kernel_rfl
theorem pl180:plainFn Tryz.prog 180=true:=by kernel_rfl
theorem pl181:plainFn Tryz.prog 181=true:=by kernel_rfl
theorem pl182:plainFn Tryz.prog 182=true:=by kernel_rfl
theorem pl183:plainFn Tryz.prog 183=true:=by kernel_rfl
theorem pl184:plainFn Tryz.prog 184=true:=by kernel_rfl
theorem pl188:plainFn Tryz.prog 188=true:=by kernel_rfl
theorem pl189:plainFn Tryz.prog 189=true:=by kernel_rfl
theorem pl19:plainFn Tryz.prog 19=true:=by kernel_rfl
theorem pl190:plainFn Tryz.prog 190=true:=by kernel_rfl
theorem pl191:plainFn Tryz.prog 191=true:=by kernel_rfl
theorem pl192:plainFn Tryz.prog 192=true:=by kernel_rfl
theorem pl193:plainFn Tryz.prog 193=true:=by kernel_rfl
theorem pl194:plainFn Tryz.prog 194=true:=by kernel_rfl
theorem pl195:plainFn Tryz.prog 195=true:=by kernel_rfl
theorem pl196:plainFn Tryz.prog 196=true:=by kernel_rfl
theorem pl209:plainFn Tryz.prog 209=true:=by kernel_rfl
theorem pl210:plainFn Tryz.prog 210=true:=by kernel_rfl
theorem pl211:plainFn Tryz.prog 211=true:=by kernel_rfl
theorem pl212:plainFn Tryz.prog 212=true:=by kernel_rfl
theorem pl213:plainFn Tryz.prog 213=true:=by kernel_rfl
theorem pl214:plainFn Tryz.prog 214=true:=by kernel_rfl
theorem pl215:plainFn Tryz.prog 215=true:=by kernel_rfl
theorem pl216:plainFn Tryz.prog 216=true:=by kernel_rfl
theorem pl217:plainFn Tryz.prog 217=true:=by kernel_rfl
theorem pl218:plainFn Tryz.prog 218=true:=by kernel_rfl
theorem pl219:plainFn Tryz.prog 219=true:=by kernel_rfl
theorem pl220:plainFn Tryz.prog 220=true:=by kernel_rfl
theorem pl221:plainFn Tryz.prog 221=true:=by kernel_rfl
theorem pl222:plainFn Tryz.prog 222=true:=by kernel_rfl
theorem pl223:plainFn Tryz.prog 223=true:=by kernel_rfl
theorem pl224:plainFn Tryz.prog 224=true:=by kernel_rfl
theorem pl225:plainFn Tryz.prog 225=true:=by kernel_rfl
theorem pl226:plainFn Tryz.prog 226=true:=by kernel_rfl
theorem pl227:plainFn Tryz.prog 227=true:=by kernel_rfl
theorem pl230:plainFn Tryz.prog 230=true:=by kernel_rfl
theorem pl231:plainFn Tryz.prog 231=true:=by kernel_rfl
theorem pl232:plainFn Tryz.prog 232=true:=by kernel_rfl
theorem pl233:plainFn Tryz.prog 233=true:=by kernel_rfl
theorem pl234:plainFn Tryz.prog 234=true:=by kernel_rfl
theorem pl235:plainFn Tryz.prog 235=true:=by kernel_rfl
theorem pl236:plainFn Tryz.prog 236=true:=by kernel_rfl
theorem pl237:plainFn Tryz.prog 237=true:=by kernel_rfl
theorem pl238:plainFn Tryz.prog 238=true:=by kernel_rfl
theorem pl239:plainFn Tryz.prog 239=true:=by kernel_rfl
theorem pl240:plainFn Tryz.prog 240=true:=by kernel_rfl
theorem pl250:plainFn Tryz.prog 250=true:=by kernel_rfl
theorem pl251:plainFn Tryz.prog 251=true:=by kernel_rfl
theorem pl252:plainFn Tryz.prog 252=true:=by kernel_rfl
theorem pl253:plainFn Tryz.prog 253=true:=by kernel_rfl
theorem pl254:plainFn Tryz.prog 254=true:=by kernel_rfl
theorem pl255:plainFn Tryz.prog 255=true:=by kernel_rfl
theorem pl256:plainFn Tryz.prog 256=true:=by kernel_rfl
theorem pl257:plainFn Tryz.prog 257=true:=by kernel_rfl
theorem pl258:plainFn Tryz.prog 258=true:=by kernel_rfl
theorem pl259:plainFn Tryz.prog 259=true:=by kernel_rfl
theorem pl26:plainFn Tryz.prog 26=true:=by kernel_rfl
theorem pl260:plainFn Tryz.prog 260=true:=by kernel_rfl
theorem pl28:plainFn Tryz.prog 28=true:=by kernel_rfl
theorem pl280:plainFn Tryz.prog 280=true:=by kernel_rfl
theorem pl281:plainFn Tryz.prog 281=true:=by kernel_rfl
theorem pl282:plainFn Tryz.prog 282=true:=by kernel_rfl
theorem pl283:plainFn Tryz.prog 283=true:=by kernel_rfl
theorem pl285:plainFn Tryz.prog 285=true:=by kernel_rfl
theorem pl294:plainFn Tryz.prog 294=true:=by kernel_rfl
theorem pl30:plainFn Tryz.prog 30=true:=by kernel_rfl
theorem pl305:plainFn Tryz.prog 305=true:=by kernel_rfl
theorem pl306:plainFn Tryz.prog 306=true:=by kernel_rfl
theorem pl307:plainFn Tryz.prog 307=true:=by kernel_rfl
theorem pl31:plainFn Tryz.prog 31=true:=by kernel_rfl
theorem pl313:plainFn Tryz.prog 313=true:=by kernel_rfl
theorem pl317:plainFn Tryz.prog 317=true:=by kernel_rfl
theorem pl318:plainFn Tryz.prog 318=true:=by kernel_rfl
theorem pl33:plainFn Tryz.prog 33=true:=by kernel_rfl
theorem pl35:plainFn Tryz.prog 35=true:=by kernel_rfl
theorem pl36:plainFn Tryz.prog 36=true:=by kernel_rfl
theorem pl37:plainFn Tryz.prog 37=true:=by kernel_rfl
theorem pl38:plainFn Tryz.prog 38=true:=by kernel_rfl
theorem pl39:plainFn Tryz.prog 39=true:=by kernel_rfl
theorem pl40:plainFn Tryz.prog 40=true:=by kernel_rfl
theorem pl41:plainFn Tryz.prog 41=true:=by kernel_rfl
theorem pl42:plainFn Tryz.prog 42=true:=by kernel_rfl
theorem pl48:plainFn Tryz.prog 48=true:=by kernel_rfl
theorem pl59:plainFn Tryz.prog 59=true:=by kernel_rfl
theorem pl60:plainFn Tryz.prog 60=true:=by kernel_rfl
theorem pl61:plainFn Tryz.prog 61=true:=by kernel_rfl
theorem pl62:plainFn Tryz.prog 62=true:=by kernel_rfl
theorem pl63:plainFn Tryz.prog 63=true:=by kernel_rfl
theorem pl64:plainFn Tryz.prog 64=true:=by kernel_rfl
theorem pl65:plainFn Tryz.prog 65=true:=by kernel_rfl
theorem pl66:plainFn Tryz.prog 66=true:=by kernel_rfl
theorem pl67:plainFn Tryz.prog 67=true:=by kernel_rfl
theorem pl68:plainFn Tryz.prog 68=true:=by kernel_rfl
theorem pl69:plainFn Tryz.prog 69=true:=by kernel_rfl
theorem pl70:plainFn Tryz.prog 70=true:=by kernel_rfl
theorem pl71:plainFn Tryz.prog 71=true:=by kernel_rfl
theorem pl72:plainFn Tryz.prog 72=true:=by kernel_rfl
theorem pl73:plainFn Tryz.prog 73=true:=by kernel_rfl
theorem pl74:plainFn Tryz.prog 74=true:=by kernel_rfl
theorem pl75:plainFn Tryz.prog 75=true:=by kernel_rfl
theorem pl76:plainFn Tryz.prog 76=true:=by kernel_rfl
theorem pl77:plainFn Tryz.prog 77=true:=by kernel_rfl
theorem pl78:plainFn Tryz.prog 78=true:=by kernel_rfl
theorem pl79:plainFn Tryz.prog 79=true:=by kernel_rfl
theorem pl80:plainFn Tryz.prog 80=true:=by kernel_rfl
theorem pl81:plainFn Tryz.prog 81=true:=by kernel_rfl
theorem pl84:plainFn Tryz.prog 84=true:=by kernel_rfl
theorem pl86:plainFn Tryz.prog 86=true:=by kernel_rfl
theorem pl87:plainFn Tryz.prog 87=true:=by kernel_rfl
theorem pl88:plainFn Tryz.prog 88=true:=by kernel_rfl
theorem pl89:plainFn Tryz.prog 89=true:=by kernel_rfl
theorem pl90:plainFn Tryz.prog 90=true:=by kernel_rfl
theorem pl91:plainFn Tryz.prog 91=true:=by kernel_rfl
theorem pl92:plainFn Tryz.prog 92=true:=by kernel_rfl
theorem pl93:plainFn Tryz.prog 93=true:=by kernel_rfl
theorem pl94:plainFn Tryz.prog 94=true:=by kernel_rfl
theorem pl95:plainFn Tryz.prog 95=true:=by kernel_rfl
theorem pl96:plainFn Tryz.prog 96=true:=by kernel_rfl
theorem pl97:plainFn Tryz.prog 97=true:=by kernel_rfl
theorem pl98:plainFn Tryz.prog 98=true:=by kernel_rfl
theorem pl99:plainFn Tryz.prog 99=true:=by kernel_rfl
theorem sT190:SlT Tryz.prog 190 DTree:=SlT.of (b:=24) (by kernel_rfl) rfl
theorem sT24:SlT Tryz.prog 24 Int:=SlT.of (b:=8) (by kernel_rfl) rfl
theorem sT27:SlT Tryz.prog 27 DRes:=SlT.of (b:=40) (by kernel_rfl) rfl
theorem sT28:SlT Tryz.prog 28 DObj:=SlT.of (b:=152) (by kernel_rfl) rfl
theorem sT33:SlT Tryz.prog 33 DTap:=SlT.of (b:=48) (by kernel_rfl) rfl
theorem sT42:SlT Tryz.prog 42 DMsg:=SlT.of (b:=16) (by kernel_rfl) rfl
theorem sT52:SlT Tryz.prog 52 DBoot:=SlT.of (b:=72) (by kernel_rfl) rfl
theorem sT71:SlT Tryz.prog 71 Bool:=SlT.of (b:=1) (by kernel_rfl) rfl
theorem sT75:SlT Tryz.prog 75 DPart:=SlT.of (b:=224) (by kernel_rfl) rfl
theorem sTP28:SlT Tryz.prog 28 DObjP:=SlT.of (b:=152) (by kernel_rfl) rfl
theorem sTV190:SlT Tryz.prog 190 DTreeV:=SlT.of (b:=24) (by kernel_rfl) rfl
theorem sz126:szV Tryz.prog 126=some 6:=by kernel_rfl
theorem sz131:szV Tryz.prog 131=some 5:=by kernel_rfl
theorem sz189:szV Tryz.prog 189=some 2:=by kernel_rfl
theorem sz192:szV Tryz.prog 192=some 1:=by kernel_rfl
theorem sz3:szV Tryz.prog 3=some 1:=by kernel_rfl
theorem sz37:szV Tryz.prog 37=some 16:=by kernel_rfl
theorem sz4:szV Tryz.prog 4=some 1:=by kernel_rfl
theorem sz44:szV Tryz.prog 44=some 13:=by kernel_rfl
theorem sz46:szV Tryz.prog 46=some 5:=by kernel_rfl
theorem sz5:szV Tryz.prog 5=some 1:=by kernel_rfl
theorem zv126:zeroV Tryz.prog 126=some (.agg #[.int .i64 0,.int .i64 0,.int .i64 0,.int .i64 0,.int .i64 0,.int .i64 0]):=by kernel_rfl
theorem zv131:zeroV Tryz.prog 131=some (.agg #[.slice none 0 0,.slice none 0 0,.int .i64 0,.int .i64 0,.int .i64 0]):=by kernel_rfl
theorem zv189:zeroV Tryz.prog 189=some (.agg #[.int .i64 0,.int .i64 0]):=by kernel_rfl
theorem zv192:zeroV Tryz.prog 192=some (.agg #[.slice none 0 0]):=by kernel_rfl
theorem zv26:zeroV Tryz.prog 26=some (.agg #[.slice none 0 0]):=by kernel_rfl
theorem zv30:zeroV Tryz.prog 30=some (.agg #[.int .i64 0,.int .i64 0,.int .i64 0,.slice none 0 0]):=by kernel_rfl
theorem zv32:zeroV Tryz.prog 32=some (.agg #[.slice none 0 0,.int .i64 0,.int .i64 0,.int .i64 0,.slice none 0 0]):=by kernel_rfl
theorem zv35:zeroV Tryz.prog 35=some (.agg #[.int .i64 0,.int .i64 0,.int .i64 0]):=by kernel_rfl
theorem zv37:zeroV Tryz.prog 37=some (.agg #[.slice none 0 0,.slice none 0 0,.slice none 0 0,.slice none 0 0,.int .i64 0,.int .i64 0,.int .i64 0,.slice none 0 0,.slice none 0 0,.int .i64 0,.int .i64 0,.int .i64 0,.int .i64 0,.int .i64 0,.int .i64 0,.int .i64 0]):=by kernel_rfl
theorem zv44:zeroV Tryz.prog 44=some (.agg #[.int .i64 0,.int .i64 0,.int .i64 0,.int .i64 0,.int .i64 0,.int .i64 0,.int .i64 0,.int .i64 0,.int .i64 0,.bool false,.slice none 0 0,.slice none 0 0,.slice none 0 0]):=by kernel_rfl
theorem zv46:zeroV Tryz.prog 46=some (.agg #[.bool false,.int .i64 0,.int .i64 0,.int .i64 0,.int .i64 0]):=by kernel_rfl
theorem zv59:zeroV Tryz.prog 59=some (.agg #[.int .i64 0,.int .i64 0,.int .i64 0,.int .i64 0,.int .i64 0,.int .i64 0]):=by kernel_rfl
theorem zv77:zeroV Tryz.prog 77=some (.agg #[.int .i64 0,.slice none 0 0]):=by kernel_rfl
theorem zv87:zeroV Tryz.prog 87=some (.agg #[.int .i64 0,.int .i64 0]):=by kernel_rfl
instance:AgC Tryz.prog 126 (some 6):=⟨ag126⟩
instance:AgC Tryz.prog 131 (some 5):=⟨ag131⟩
instance:AgC Tryz.prog 189 (some 2):=⟨ag189⟩
instance:AgC Tryz.prog 192 (some 1):=⟨ag192⟩
instance:AgC Tryz.prog 22 none:=⟨ag22⟩
instance:AgC Tryz.prog 24 none:=⟨ag24⟩
instance:AgC Tryz.prog 26 (some 1):=⟨ag26⟩
instance:AgC Tryz.prog 27 none:=⟨ag27⟩
instance:AgC Tryz.prog 28 none:=⟨ag28⟩
instance:AgC Tryz.prog 3 none:=⟨ag3⟩
instance:AgC Tryz.prog 30 (some 4):=⟨ag30⟩
instance:AgC Tryz.prog 32 (some 5):=⟨ag32⟩
instance:AgC Tryz.prog 33 none:=⟨ag33⟩
instance:AgC Tryz.prog 35 (some 3):=⟨ag35⟩
instance:AgC Tryz.prog 37 (some 16):=⟨ag37⟩
instance:AgC Tryz.prog 4 none:=⟨ag4⟩
instance:AgC Tryz.prog 42 none:=⟨ag42⟩
instance:AgC Tryz.prog 44 (some 13):=⟨ag44⟩
instance:AgC Tryz.prog 46 (some 5):=⟨ag46⟩
instance:AgC Tryz.prog 5 none:=⟨ag5⟩
instance:AgC Tryz.prog 59 (some 6):=⟨ag59⟩
instance:AgC Tryz.prog 75 none:=⟨ag75⟩
instance:AgC Tryz.prog 77 (some 2):=⟨ag77⟩
instance:AgC Tryz.prog 87 (some 2):=⟨ag87⟩
instance:FoC Tryz.prog 126 0 0 none:=⟨fo126_0⟩
instance:FoC Tryz.prog 126 1 1 none:=⟨fo126_1⟩
instance:FoC Tryz.prog 126 2 2 none:=⟨fo126_2⟩
instance:FoC Tryz.prog 126 3 3 none:=⟨fo126_3⟩
instance:FoC Tryz.prog 126 4 4 none:=⟨fo126_4⟩
instance:FoC Tryz.prog 126 5 5 none:=⟨fo126_5⟩
instance:FoC Tryz.prog 131 0 0 (some 1):=⟨fo131_0⟩
instance:FoC Tryz.prog 131 1 1 none:=⟨fo131_1⟩
instance:FoC Tryz.prog 131 2 2 (some 3):=⟨fo131_2⟩
instance:FoC Tryz.prog 164 0 0 none:=⟨fo164_0⟩
instance:FoC Tryz.prog 164 1 1 none:=⟨fo164_1⟩
instance:FoC Tryz.prog 164 2 2 none:=⟨fo164_2⟩
instance:FoC Tryz.prog 189 0 0 none:=⟨fo189_0⟩
instance:FoC Tryz.prog 189 1 1 none:=⟨fo189_1⟩
instance:FoC Tryz.prog 192 0 0 none:=⟨fo192_0⟩
instance:FoC Tryz.prog 26 0 0 none:=⟨fo26_0⟩
instance:FoC Tryz.prog 30 0 0 none:=⟨fo30_0⟩
instance:FoC Tryz.prog 30 1 1 none:=⟨fo30_1⟩
instance:FoC Tryz.prog 30 2 2 none:=⟨fo30_2⟩
instance:FoC Tryz.prog 30 3 3 none:=⟨fo30_3⟩
instance:FoC Tryz.prog 32 0 0 none:=⟨fo32_0⟩
instance:FoC Tryz.prog 32 1 1 (some 4):=⟨fo32_1⟩
instance:FoC Tryz.prog 35 0 0 none:=⟨fo35_0⟩
instance:FoC Tryz.prog 35 1 1 none:=⟨fo35_1⟩
instance:FoC Tryz.prog 35 2 2 none:=⟨fo35_2⟩
instance:FoC Tryz.prog 37 0 0 (some 1):=⟨fo37_0⟩
instance:FoC Tryz.prog 37 1 1 none:=⟨fo37_1⟩
instance:FoC Tryz.prog 37 2 2 none:=⟨fo37_2⟩
instance:FoC Tryz.prog 37 3 3 (some 5):=⟨fo37_3⟩
instance:FoC Tryz.prog 37 4 8 none:=⟨fo37_4⟩
instance:FoC Tryz.prog 37 5 9 none:=⟨fo37_5⟩
instance:FoC Tryz.prog 37 6 10 none:=⟨fo37_6⟩
instance:FoC Tryz.prog 37 7 11 (some 3):=⟨fo37_7⟩
instance:FoC Tryz.prog 37 8 14 none:=⟨fo37_8⟩
instance:FoC Tryz.prog 37 9 15 none:=⟨fo37_9⟩
instance:FoC Tryz.prog 44 0 0 none:=⟨fo44_0⟩
instance:FoC Tryz.prog 44 1 1 none:=⟨fo44_1⟩
instance:FoC Tryz.prog 44 10 10 none:=⟨fo44_10⟩
instance:FoC Tryz.prog 44 11 11 none:=⟨fo44_11⟩
instance:FoC Tryz.prog 44 12 12 none:=⟨fo44_12⟩
instance:FoC Tryz.prog 44 2 2 none:=⟨fo44_2⟩
instance:FoC Tryz.prog 44 3 3 none:=⟨fo44_3⟩
instance:FoC Tryz.prog 44 4 4 none:=⟨fo44_4⟩
instance:FoC Tryz.prog 44 5 5 none:=⟨fo44_5⟩
instance:FoC Tryz.prog 44 6 6 none:=⟨fo44_6⟩
instance:FoC Tryz.prog 44 7 7 none:=⟨fo44_7⟩
instance:FoC Tryz.prog 44 8 8 none:=⟨fo44_8⟩
instance:FoC Tryz.prog 44 9 9 none:=⟨fo44_9⟩
instance:FoC Tryz.prog 46 0 0 none:=⟨fo46_0⟩
instance:FoC Tryz.prog 46 1 1 none:=⟨fo46_1⟩
instance:FoC Tryz.prog 46 2 2 (some 3):=⟨fo46_2⟩
instance:FoC Tryz.prog 59 0 0 none:=⟨fo59_0⟩
instance:FoC Tryz.prog 59 1 1 none:=⟨fo59_1⟩
instance:FoC Tryz.prog 59 2 2 none:=⟨fo59_2⟩
instance:FoC Tryz.prog 59 3 3 none:=⟨fo59_3⟩
instance:FoC Tryz.prog 59 4 4 none:=⟨fo59_4⟩
instance:FoC Tryz.prog 59 5 5 none:=⟨fo59_5⟩
instance:FoC Tryz.prog 77 0 0 none:=⟨fo77_0⟩
instance:FoC Tryz.prog 77 1 1 none:=⟨fo77_1⟩
instance:PlC Tryz.prog 100:=⟨pl100⟩
instance:PlC Tryz.prog 101:=⟨pl101⟩
instance:PlC Tryz.prog 102:=⟨pl102⟩
instance:PlC Tryz.prog 103:=⟨pl103⟩
instance:PlC Tryz.prog 104:=⟨pl104⟩
instance:PlC Tryz.prog 105:=⟨pl105⟩
instance:PlC Tryz.prog 106:=⟨pl106⟩
instance:PlC Tryz.prog 107:=⟨pl107⟩
instance:PlC Tryz.prog 108:=⟨pl108⟩
instance:PlC Tryz.prog 109:=⟨pl109⟩
instance:PlC Tryz.prog 11:=⟨pl11⟩
instance:PlC Tryz.prog 110:=⟨pl110⟩
instance:PlC Tryz.prog 111:=⟨pl111⟩
instance:PlC Tryz.prog 119:=⟨pl119⟩
instance:PlC Tryz.prog 12:=⟨pl12⟩
instance:PlC Tryz.prog 124:=⟨pl124⟩
instance:PlC Tryz.prog 127:=⟨pl127⟩
instance:PlC Tryz.prog 13:=⟨pl13⟩
instance:PlC Tryz.prog 133:=⟨pl133⟩
instance:PlC Tryz.prog 134:=⟨pl134⟩
instance:PlC Tryz.prog 135:=⟨pl135⟩
instance:PlC Tryz.prog 136:=⟨pl136⟩
instance:PlC Tryz.prog 137:=⟨pl137⟩
instance:PlC Tryz.prog 138:=⟨pl138⟩
instance:PlC Tryz.prog 139:=⟨pl139⟩
instance:PlC Tryz.prog 14:=⟨pl14⟩
instance:PlC Tryz.prog 140:=⟨pl140⟩
instance:PlC Tryz.prog 141:=⟨pl141⟩
instance:PlC Tryz.prog 142:=⟨pl142⟩
instance:PlC Tryz.prog 143:=⟨pl143⟩
instance:PlC Tryz.prog 144:=⟨pl144⟩
instance:PlC Tryz.prog 145:=⟨pl145⟩
instance:PlC Tryz.prog 146:=⟨pl146⟩
instance:PlC Tryz.prog 147:=⟨pl147⟩
instance:PlC Tryz.prog 148:=⟨pl148⟩
instance:PlC Tryz.prog 149:=⟨pl149⟩
instance:PlC Tryz.prog 15:=⟨pl15⟩
instance:PlC Tryz.prog 150:=⟨pl150⟩
instance:PlC Tryz.prog 151:=⟨pl151⟩
instance:PlC Tryz.prog 152:=⟨pl152⟩
instance:PlC Tryz.prog 153:=⟨pl153⟩
instance:PlC Tryz.prog 154:=⟨pl154⟩
instance:PlC Tryz.prog 155:=⟨pl155⟩
instance:PlC Tryz.prog 156:=⟨pl156⟩
instance:PlC Tryz.prog 157:=⟨pl157⟩
instance:PlC Tryz.prog 158:=⟨pl158⟩
instance:PlC Tryz.prog 159:=⟨pl159⟩
instance:PlC Tryz.prog 16:=⟨pl16⟩
instance:PlC Tryz.prog 160:=⟨pl160⟩
instance:PlC Tryz.prog 161:=⟨pl161⟩
instance:PlC Tryz.prog 165:=⟨pl165⟩
instance:PlC Tryz.prog 166:=⟨pl166⟩
instance:PlC Tryz.prog 167:=⟨pl167⟩
instance:PlC Tryz.prog 168:=⟨pl168⟩
instance:PlC Tryz.prog 169:=⟨pl169⟩
instance:PlC Tryz.prog 17:=⟨pl17⟩
instance:PlC Tryz.prog 170:=⟨pl170⟩
instance:PlC Tryz.prog 171:=⟨pl171⟩
instance:PlC Tryz.prog 172:=⟨pl172⟩
instance:PlC Tryz.prog 173:=⟨pl173⟩
instance:PlC Tryz.prog 174:=⟨pl174⟩
instance:PlC Tryz.prog 175:=⟨pl175⟩
instance:PlC Tryz.prog 176:=⟨pl176⟩
instance:PlC Tryz.prog 177:=⟨pl177⟩
instance:PlC Tryz.prog 178:=⟨pl178⟩
instance:PlC Tryz.prog 179:=⟨pl179⟩
instance:PlC Tryz.prog 18:=⟨pl18⟩
instance:PlC Tryz.prog 180:=⟨pl180⟩
instance:PlC Tryz.prog 181:=⟨pl181⟩
instance:PlC Tryz.prog 182:=⟨pl182⟩
instance:PlC Tryz.prog 183:=⟨pl183⟩
instance:PlC Tryz.prog 184:=⟨pl184⟩
instance:PlC Tryz.prog 188:=⟨pl188⟩
instance:PlC Tryz.prog 189:=⟨pl189⟩
instance:PlC Tryz.prog 19:=⟨pl19⟩
instance:PlC Tryz.prog 190:=⟨pl190⟩
instance:PlC Tryz.prog 191:=⟨pl191⟩
instance:PlC Tryz.prog 192:=⟨pl192⟩
instance:PlC Tryz.prog 193:=⟨pl193⟩
instance:PlC Tryz.prog 194:=⟨pl194⟩
instance:PlC Tryz.prog 195:=⟨pl195⟩
instance:PlC Tryz.prog 196:=⟨pl196⟩
instance:PlC Tryz.prog 209:=⟨pl209⟩
instance:PlC Tryz.prog 210:=⟨pl210⟩
instance:PlC Tryz.prog 211:=⟨pl211⟩
instance:PlC Tryz.prog 212:=⟨pl212⟩
instance:PlC Tryz.prog 213:=⟨pl213⟩
instance:PlC Tryz.prog 214:=⟨pl214⟩
instance:PlC Tryz.prog 215:=⟨pl215⟩
instance:PlC Tryz.prog 216:=⟨pl216⟩
instance:PlC Tryz.prog 217:=⟨pl217⟩
instance:PlC Tryz.prog 218:=⟨pl218⟩
instance:PlC Tryz.prog 219:=⟨pl219⟩
instance:PlC Tryz.prog 220:=⟨pl220⟩
instance:PlC Tryz.prog 221:=⟨pl221⟩
instance:PlC Tryz.prog 222:=⟨pl222⟩
instance:PlC Tryz.prog 223:=⟨pl223⟩
instance:PlC Tryz.prog 224:=⟨pl224⟩
instance:PlC Tryz.prog 225:=⟨pl225⟩
instance:PlC Tryz.prog 226:=⟨pl226⟩
instance:PlC Tryz.prog 227:=⟨pl227⟩
instance:PlC Tryz.prog 230:=⟨pl230⟩
instance:PlC Tryz.prog 231:=⟨pl231⟩
instance:PlC Tryz.prog 232:=⟨pl232⟩
instance:PlC Tryz.prog 233:=⟨pl233⟩
instance:PlC Tryz.prog 234:=⟨pl234⟩
instance:PlC Tryz.prog 235:=⟨pl235⟩
instance:PlC Tryz.prog 236:=⟨pl236⟩
instance:PlC Tryz.prog 237:=⟨pl237⟩
instance:PlC Tryz.prog 238:=⟨pl238⟩
instance:PlC Tryz.prog 239:=⟨pl239⟩
instance:PlC Tryz.prog 240:=⟨pl240⟩
instance:PlC Tryz.prog 250:=⟨pl250⟩
instance:PlC Tryz.prog 251:=⟨pl251⟩
instance:PlC Tryz.prog 252:=⟨pl252⟩
instance:PlC Tryz.prog 253:=⟨pl253⟩
instance:PlC Tryz.prog 254:=⟨pl254⟩
instance:PlC Tryz.prog 255:=⟨pl255⟩
instance:PlC Tryz.prog 256:=⟨pl256⟩
instance:PlC Tryz.prog 257:=⟨pl257⟩
instance:PlC Tryz.prog 258:=⟨pl258⟩
instance:PlC Tryz.prog 259:=⟨pl259⟩
instance:PlC Tryz.prog 26:=⟨pl26⟩
instance:PlC Tryz.prog 260:=⟨pl260⟩
instance:PlC Tryz.prog 28:=⟨pl28⟩
instance:PlC Tryz.prog 280:=⟨pl280⟩
instance:PlC Tryz.prog 281:=⟨pl281⟩
instance:PlC Tryz.prog 282:=⟨pl282⟩
instance:PlC Tryz.prog 283:=⟨pl283⟩
instance:PlC Tryz.prog 285:=⟨pl285⟩
instance:PlC Tryz.prog 294:=⟨pl294⟩
instance:PlC Tryz.prog 30:=⟨pl30⟩
instance:PlC Tryz.prog 305:=⟨pl305⟩
instance:PlC Tryz.prog 306:=⟨pl306⟩
instance:PlC Tryz.prog 307:=⟨pl307⟩
instance:PlC Tryz.prog 31:=⟨pl31⟩
instance:PlC Tryz.prog 313:=⟨pl313⟩
instance:PlC Tryz.prog 317:=⟨pl317⟩
instance:PlC Tryz.prog 318:=⟨pl318⟩
instance:PlC Tryz.prog 33:=⟨pl33⟩
instance:PlC Tryz.prog 35:=⟨pl35⟩
instance:PlC Tryz.prog 36:=⟨pl36⟩
instance:PlC Tryz.prog 37:=⟨pl37⟩
instance:PlC Tryz.prog 38:=⟨pl38⟩
instance:PlC Tryz.prog 39:=⟨pl39⟩
instance:PlC Tryz.prog 40:=⟨pl40⟩
instance:PlC Tryz.prog 41:=⟨pl41⟩
instance:PlC Tryz.prog 42:=⟨pl42⟩
instance:PlC Tryz.prog 48:=⟨pl48⟩
instance:PlC Tryz.prog 59:=⟨pl59⟩
instance:PlC Tryz.prog 60:=⟨pl60⟩
instance:PlC Tryz.prog 61:=⟨pl61⟩
instance:PlC Tryz.prog 62:=⟨pl62⟩
instance:PlC Tryz.prog 63:=⟨pl63⟩
instance:PlC Tryz.prog 64:=⟨pl64⟩
instance:PlC Tryz.prog 65:=⟨pl65⟩
instance:PlC Tryz.prog 66:=⟨pl66⟩
instance:PlC Tryz.prog 67:=⟨pl67⟩
instance:PlC Tryz.prog 68:=⟨pl68⟩
instance:PlC Tryz.prog 69:=⟨pl69⟩
instance:PlC Tryz.prog 70:=⟨pl70⟩
instance:PlC Tryz.prog 71:=⟨pl71⟩
instance:PlC Tryz.prog 72:=⟨pl72⟩
instance:PlC Tryz.prog 73:=⟨pl73⟩
instance:PlC Tryz.prog 74:=⟨pl74⟩
instance:PlC Tryz.prog 75:=⟨pl75⟩
instance:PlC Tryz.prog 76:=⟨pl76⟩
instance:PlC Tryz.prog 77:=⟨pl77⟩
instance:PlC Tryz.prog 78:=⟨pl78⟩
instance:PlC Tryz.prog 79:=⟨pl79⟩
instance:PlC Tryz.prog 80:=⟨pl80⟩
instance:PlC Tryz.prog 81:=⟨pl81⟩
instance:PlC Tryz.prog 84:=⟨pl84⟩
instance:PlC Tryz.prog 86:=⟨pl86⟩
instance:PlC Tryz.prog 87:=⟨pl87⟩
instance:PlC Tryz.prog 88:=⟨pl88⟩
instance:PlC Tryz.prog 89:=⟨pl89⟩
instance:PlC Tryz.prog 90:=⟨pl90⟩
instance:PlC Tryz.prog 91:=⟨pl91⟩
instance:PlC Tryz.prog 92:=⟨pl92⟩
instance:PlC Tryz.prog 93:=⟨pl93⟩
instance:PlC Tryz.prog 94:=⟨pl94⟩
instance:PlC Tryz.prog 95:=⟨pl95⟩
instance:PlC Tryz.prog 96:=⟨pl96⟩
instance:PlC Tryz.prog 97:=⟨pl97⟩
instance:PlC Tryz.prog 98:=⟨pl98⟩
instance:PlC Tryz.prog 99:=⟨pl99⟩
instance:SzC Tryz.prog 126 6:=⟨sz126⟩
instance:SzC Tryz.prog 131 5:=⟨sz131⟩
instance:SzC Tryz.prog 189 2:=⟨sz189⟩
instance:SzC Tryz.prog 192 1:=⟨sz192⟩
instance:SzC Tryz.prog 3 1:=⟨sz3⟩
instance:SzC Tryz.prog 37 16:=⟨sz37⟩
instance:SzC Tryz.prog 4 1:=⟨sz4⟩
instance:SzC Tryz.prog 44 13:=⟨sz44⟩
instance:SzC Tryz.prog 46 5:=⟨sz46⟩
instance:SzC Tryz.prog 5 1:=⟨sz5⟩
instance:ZvC Tryz.prog 126:=⟨_,zv126⟩
instance:ZvC Tryz.prog 131:=⟨_,zv131⟩
instance:ZvC Tryz.prog 189:=⟨_,zv189⟩
instance:ZvC Tryz.prog 192:=⟨_,zv192⟩
instance:ZvC Tryz.prog 26:=⟨_,zv26⟩
instance:ZvC Tryz.prog 30:=⟨_,zv30⟩
instance:ZvC Tryz.prog 32:=⟨_,zv32⟩
instance:ZvC Tryz.prog 35:=⟨_,zv35⟩
instance:ZvC Tryz.prog 37:=⟨_,zv37⟩
instance:ZvC Tryz.prog 44:=⟨_,zv44⟩
instance:ZvC Tryz.prog 46:=⟨_,zv46⟩
instance:ZvC Tryz.prog 59:=⟨_,zv59⟩
instance:ZvC Tryz.prog 77:=⟨_,zv77⟩
instance:ZvC Tryz.prog 87:=⟨_,zv87⟩
instance:UnC Tryz.prog 22 (.slice 5):=⟨Tryz.underlying22⟩
instance:UnC Tryz.prog 24 (.slice 3):=⟨Tryz.underlying24⟩
instance:UnC Tryz.prog 27 (.slice 46):=⟨Tryz.underlying27⟩
instance:UnC Tryz.prog 28 (.slice 44):=⟨Tryz.underlying28⟩
instance:UnC Tryz.prog 33 (.slice 126):=⟨Tryz.underlying33⟩
instance:UnC Tryz.prog 42 (.slice 189):=⟨Tryz.underlying42⟩
instance:UnC Tryz.prog 52 (.slice 131):=⟨Tryz.underlying52⟩
instance:UnC Tryz.prog 53 (.slice 61):=⟨Tryz.underlying53⟩
instance:UnC Tryz.prog 71 (.slice 4):=⟨Tryz.underlying71⟩
instance:UnC Tryz.prog 75 (.slice 37):=⟨Tryz.underlying75⟩
instance:UnC Tryz.prog 94 (.slice 219):=⟨Tryz.underlying94⟩
instance:UnC Tryz.prog 158 (.slice 9):=⟨Tryz.underlying158⟩
instance:UnC Tryz.prog 190 (.slice 192):=⟨Tryz.underlying190⟩
instance:UnC Tryz.prog 211 (.slice 271):=⟨Tryz.underlying211⟩
instance:UnC Tryz.prog 212 (.slice 283):=⟨Tryz.underlying212⟩
instance:UnC Tryz.prog 216 (.slice 275):=⟨Tryz.underlying216⟩
instance:UnC Tryz.prog 281 (.slice 290):=⟨Tryz.underlying281⟩
end Go.Kx
