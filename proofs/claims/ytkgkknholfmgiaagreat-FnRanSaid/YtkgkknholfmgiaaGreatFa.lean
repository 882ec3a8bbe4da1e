/- Closed facts of the program's types and functions. Printed by drive.py. -/
import Derived.Test.YtkgkknholfmgiaaGreatProg
import Derived.Test.YtkgkknholfmgiaaGreatGo
import Derived.Test.YtkgkknholfmgiaaGreatDat
import Derived.Test.YtkgkknholfmgiaaGreatTap
import Derived.Test.YtkgkknholfmgiaaGreatAl
namespace Go.Kx
open Go Go.RowKit Go.Proofs
set_option maxRecDepth 10000
set_option maxHeartbeats 8000000
set_option linter.unusedVariables false
set_option linter.unusedSimpArgs false
theorem ag104:aggV Tryz.prog 104=some (some 5):=by kernel_rfl
theorem ag125:aggV Tryz.prog 125=some (some 2):=by kernel_rfl
theorem ag152:aggV Tryz.prog 152=some (some 2):=by kernel_rfl
theorem ag22:aggV Tryz.prog 22=some none:=by kernel_rfl
theorem ag24:aggV Tryz.prog 24=some none:=by kernel_rfl
theorem ag26:aggV Tryz.prog 26=some (some 1):=by kernel_rfl
theorem ag27:aggV Tryz.prog 27=some none:=by kernel_rfl
theorem ag28:aggV Tryz.prog 28=some none:=by kernel_rfl
theorem ag3:aggV Tryz.prog 3=some none:=by kernel_rfl
theorem ag30:aggV Tryz.prog 30=some (some 4):=by kernel_rfl
theorem ag32:aggV Tryz.prog 32=some (some 5):=by kernel_rfl
theorem ag33:aggV Tryz.prog 33=some none:=by kernel_rfl
theorem ag35:aggV Tryz.prog 35=some (some 3):=by kernel_rfl
theorem ag37:aggV Tryz.prog 37=some (some 16):=by kernel_rfl
theorem ag4:aggV Tryz.prog 4=some none:=by kernel_rfl
theorem ag47:aggV Tryz.prog 47=some (some 5):=by kernel_rfl
theorem ag48:aggV Tryz.prog 48=some none:=by kernel_rfl
theorem ag5:aggV Tryz.prog 5=some none:=by kernel_rfl
theorem ag50:aggV Tryz.prog 50=some (some 13):=by kernel_rfl
theorem ag58:aggV Tryz.prog 58=some (some 6):=by kernel_rfl
theorem ag95:aggV Tryz.prog 95=some (some 6):=by kernel_rfl
theorem eg152:Program.eqGuardType Tryz.prog Tryz.prog.depth 152=false:=by kernel_rfl
theorem eg35:Program.eqGuardType Tryz.prog Tryz.prog.depth 35=false:=by kernel_rfl
theorem eg47:Program.eqGuardType Tryz.prog Tryz.prog.depth 47=false:=by kernel_rfl
theorem eg95:Program.eqGuardType Tryz.prog Tryz.prog.depth 95=false:=by kernel_rfl
theorem eq152:∀ (a b:DMsg) (w:World),(Op.equalIn 10000 152 (.agg #[.int .i64 a.src,.int .i64 a.n]) (.agg #[.int .i64 b.src,.int .i64 b.n])).run Tryz.prog w=.ok (decide (a=b)) w:=fun a b w=>EqT.top (n:=1) (EqT.agg (n:=0) Tryz.underlying152 (by kernel_rfl) (EqF.one rfl ag3 rfl rfl (EqT.int Tryz.underlying3) (EqF.one rfl ag3 rfl rfl (EqT.int Tryz.underlying3) EqF.nil))) (by decide) (by
  obtain ⟨x0,x1⟩:=a
  obtain ⟨y0,y1⟩:=b
  simp [DMsg.mk.injEq,Bool.beq_eq_decide_eq,Bool.decide_and]) w
theorem eq35:∀ (a b:DAmt) (w:World),(Op.equalIn 10000 35 (.agg #[.int .i64 a.pages,.int .i64 a.rent,.int .i64 a.cpu]) (.agg #[.int .i64 b.pages,.int .i64 b.rent,.int .i64 b.cpu])).run Tryz.prog w=.ok (decide (a=b)) w:=fun a b w=>EqT.top (n:=1) (EqT.agg (n:=0) Tryz.underlying35 (by kernel_rfl) (EqF.one rfl ag3 rfl rfl (EqT.int Tryz.underlying3) (EqF.one rfl ag3 rfl rfl (EqT.int Tryz.underlying3) (EqF.one rfl ag3 rfl rfl (EqT.int Tryz.underlying3) EqF.nil)))) (by decide) (by
  obtain ⟨x0,x1,x2⟩:=a
  obtain ⟨y0,y1,y2⟩:=b
  simp [DAmt.mk.injEq,Bool.beq_eq_decide_eq,Bool.decide_and]) w
theorem eq47:∀ (a b:DRes) (w:World),(Op.equalIn 10000 47 (.agg #[.bool a.live,.int .i64 a.parent,.int .i64 a.bal.pages,.int .i64 a.bal.rent,.int .i64 a.bal.cpu]) (.agg #[.bool b.live,.int .i64 b.parent,.int .i64 b.bal.pages,.int .i64 b.bal.rent,.int .i64 b.bal.cpu])).run Tryz.prog w=.ok (decide (a=b)) w:=fun a b w=>EqT.top (n:=2) (EqT.agg (n:=1) Tryz.underlying47 (by kernel_rfl) (EqF.one rfl ag4 rfl rfl (EqT.bool Tryz.underlying4) (EqF.one rfl ag3 rfl rfl (EqT.int Tryz.underlying3) (EqF.more rfl ag35 (EqT.agg (n:=0) Tryz.underlying35 (by kernel_rfl) (EqF.one rfl ag3 rfl rfl (EqT.int Tryz.underlying3) (EqF.one rfl ag3 rfl rfl (EqT.int Tryz.underlying3) (EqF.one rfl ag3 rfl rfl (EqT.int Tryz.underlying3) EqF.nil)))) EqF.nil)))) (by decide) (by
  obtain ⟨x0,x1,⟨x2,x3,x4⟩⟩:=a
  obtain ⟨y0,y1,⟨y2,y3,y4⟩⟩:=b
  simp [DAmt.mk.injEq,DRes.mk.injEq,Bool.beq_eq_decide_eq,Bool.decide_and]) w
theorem eq95:∀ (a b:DTap) (w:World),(Op.equalIn 10000 95 (.agg #[.int .i64 a.res,.int .i64 a.toPart,.int .i64 a.toRes,.int .i64 a.which,.int .i64 a.kind,.int .i64 a.rate]) (.agg #[.int .i64 b.res,.int .i64 b.toPart,.int .i64 b.toRes,.int .i64 b.which,.int .i64 b.kind,.int .i64 b.rate])).run Tryz.prog w=.ok (decide (a=b)) w:=fun a b w=>EqT.top (n:=1) (EqT.agg (n:=0) Tryz.underlying95 (by kernel_rfl) (EqF.one rfl ag3 rfl rfl (EqT.int Tryz.underlying3) (EqF.one rfl ag3 rfl rfl (EqT.int Tryz.underlying3) (EqF.one rfl ag3 rfl rfl (EqT.int Tryz.underlying3) (EqF.one rfl ag3 rfl rfl (EqT.int Tryz.underlying3) (EqF.one rfl ag3 rfl rfl (EqT.int Tryz.underlying3) (EqF.one rfl ag3 rfl rfl (EqT.int Tryz.underlying3) EqF.nil))))))) (by decide) (by
  obtain ⟨x0,x1,x2,x3,x4,x5⟩:=a
  obtain ⟨y0,y1,y2,y3,y4,y5⟩:=b
  simp [DTap.mk.injEq,Bool.beq_eq_decide_eq,Bool.decide_and]) w
theorem fo104_0:fo Tryz.prog 104 0=some (0,some 1):=by kernel_rfl
theorem fo104_1:fo Tryz.prog 104 1=some (1,none):=by kernel_rfl
theorem fo104_2:fo Tryz.prog 104 2=some (2,some 3):=by kernel_rfl
theorem fo120_0:fo Tryz.prog 120 0=some (0,none):=by kernel_rfl
theorem fo120_1:fo Tryz.prog 120 1=some (1,none):=by kernel_rfl
theorem fo120_2:fo Tryz.prog 120 2=some (2,none):=by kernel_rfl
theorem fo152_0:fo Tryz.prog 152 0=some (0,none):=by kernel_rfl
theorem fo152_1:fo Tryz.prog 152 1=some (1,none):=by kernel_rfl
theorem fo26_0:fo Tryz.prog 26 0=some (0,none):=by kernel_rfl
theorem fo30_0:fo Tryz.prog 30 0=some (0,none):=by kernel_rfl
theorem fo30_1:fo Tryz.prog 30 1=some (1,none):=by kernel_rfl
theorem fo30_2:fo Tryz.prog 30 2=some (2,none):=by kernel_rfl
theorem fo30_3:fo Tryz.prog 30 3=some (3,none):=by kernel_rfl
theorem fo32_0:fo Tryz.prog 32 0=some (0,none):=by kernel_rfl
theorem fo32_1:fo Tryz.prog 32 1=some (1,some 4):=by kernel_rfl
theorem fo35_0:fo Tryz.prog 35 0=some (0,none):=by kernel_rfl
theorem fo35_1:fo Tryz.prog 35 1=some (1,none):=by kernel_rfl
theorem fo35_2:fo Tryz.prog 35 2=some (2,none):=by kernel_rfl
theorem fo37_0:fo Tryz.prog 37 0=some (0,some 1):=by kernel_rfl
theorem fo37_1:fo Tryz.prog 37 1=some (1,none):=by kernel_rfl
theorem fo37_2:fo Tryz.prog 37 2=some (2,none):=by kernel_rfl
theorem fo37_3:fo Tryz.prog 37 3=some (3,some 5):=by kernel_rfl
theorem fo37_4:fo Tryz.prog 37 4=some (8,none):=by kernel_rfl
theorem fo37_5:fo Tryz.prog 37 5=some (9,none):=by kernel_rfl
theorem fo37_6:fo Tryz.prog 37 6=some (10,none):=by kernel_rfl
theorem fo37_7:fo Tryz.prog 37 7=some (11,some 3):=by kernel_rfl
theorem fo37_8:fo Tryz.prog 37 8=some (14,none):=by kernel_rfl
theorem fo37_9:fo Tryz.prog 37 9=some (15,none):=by kernel_rfl
theorem fo47_0:fo Tryz.prog 47 0=some (0,none):=by kernel_rfl
theorem fo47_1:fo Tryz.prog 47 1=some (1,none):=by kernel_rfl
theorem fo47_2:fo Tryz.prog 47 2=some (2,some 3):=by kernel_rfl
theorem fo50_0:fo Tryz.prog 50 0=some (0,none):=by kernel_rfl
theorem fo50_1:fo Tryz.prog 50 1=some (1,none):=by kernel_rfl
theorem fo50_10:fo Tryz.prog 50 10=some (10,none):=by kernel_rfl
theorem fo50_11:fo Tryz.prog 50 11=some (11,none):=by kernel_rfl
theorem fo50_12:fo Tryz.prog 50 12=some (12,none):=by kernel_rfl
theorem fo50_2:fo Tryz.prog 50 2=some (2,none):=by kernel_rfl
theorem fo50_3:fo Tryz.prog 50 3=some (3,none):=by kernel_rfl
theorem fo50_4:fo Tryz.prog 50 4=some (4,none):=by kernel_rfl
theorem fo50_5:fo Tryz.prog 50 5=some (5,none):=by kernel_rfl
theorem fo50_6:fo Tryz.prog 50 6=some (6,none):=by kernel_rfl
theorem fo50_7:fo Tryz.prog 50 7=some (7,none):=by kernel_rfl
theorem fo50_8:fo Tryz.prog 50 8=some (8,none):=by kernel_rfl
theorem fo50_9:fo Tryz.prog 50 9=some (9,none):=by kernel_rfl
theorem fo58_0:fo Tryz.prog 58 0=some (0,none):=by kernel_rfl
theorem fo58_1:fo Tryz.prog 58 1=some (1,none):=by kernel_rfl
theorem fo58_2:fo Tryz.prog 58 2=some (2,none):=by kernel_rfl
theorem fo58_3:fo Tryz.prog 58 3=some (3,none):=by kernel_rfl
theorem fo58_4:fo Tryz.prog 58 4=some (4,none):=by kernel_rfl
theorem fo58_5:fo Tryz.prog 58 5=some (5,none):=by kernel_rfl
theorem fo95_0:fo Tryz.prog 95 0=some (0,none):=by kernel_rfl
theorem fo95_1:fo Tryz.prog 95 1=some (1,none):=by kernel_rfl
theorem fo95_2:fo Tryz.prog 95 2=some (2,none):=by kernel_rfl
theorem fo95_3:fo Tryz.prog 95 3=some (3,none):=by kernel_rfl
theorem fo95_4:fo Tryz.prog 95 4=some (4,none):=by kernel_rfl
theorem fo95_5:fo Tryz.prog 95 5=some (5,none):=by kernel_rfl
theorem pl100:plainFn Tryz.prog 100=true:=by kernel_rfl
theorem pl101:plainFn Tryz.prog 101=true:=by kernel_rfl
theorem pl102:plainFn Tryz.prog 102=true:=by kernel_rfl
theorem pl103:plainFn Tryz.prog 103=true:=by kernel_rfl
theorem pl104:plainFn Tryz.prog 104=true:=by kernel_rfl
theorem pl105:plainFn Tryz.prog 105=true:=by kernel_rfl
theorem pl106:plainFn Tryz.prog 106=true:=by kernel_rfl
theorem pl107:plainFn Tryz.prog 107=true:=by kernel_rfl
theorem pl108:plainFn Tryz.prog 108=true:=by kernel_rfl
theorem pl109:plainFn Tryz.prog 109=true:=by kernel_rfl
theorem pl110:plainFn Tryz.prog 110=true:=by kernel_rfl
theorem pl111:plainFn Tryz.prog 111=true:=by kernel_rfl
theorem pl112:plainFn Tryz.prog 112=true:=by kernel_rfl
theorem pl113:plainFn Tryz.prog 113=true:=by kernel_rfl
theorem pl114:plainFn Tryz.prog 114=true:=by kernel_rfl
theorem pl115:plainFn Tryz.prog 115=true:=by kernel_rfl
theorem pl116:plainFn Tryz.prog 116=true:=by kernel_rfl
theorem pl117:plainFn Tryz.prog 117=true:=by kernel_rfl
theorem pl118:plainFn Tryz.prog 118=true:=by kernel_rfl
theorem pl119:plainFn Tryz.prog 119=true:=by kernel_rfl
theorem pl12:plainFn Tryz.prog 12=true:=by kernel_rfl
theorem pl120:plainFn Tryz.prog 120=true:=by kernel_rfl
theorem pl125:plainFn Tryz.prog 125=true:=by kernel_rfl
theorem pl126:plainFn Tryz.prog 126=true:=by kernel_rfl
theorem pl127:plainFn Tryz.prog 127=true:=by kernel_rfl
theorem pl128:plainFn Tryz.prog 128=true:=by kernel_rfl
theorem pl129:plainFn Tryz.prog 129=true:=by kernel_rfl
theorem pl13:plainFn Tryz.prog 13=true:=by kernel_rfl
theorem pl130:plainFn Tryz.prog 130=true:=by kernel_rfl
theorem pl131:plainFn Tryz.prog 131=true:=by kernel_rfl
theorem pl132:plainFn Tryz.prog 132=true:=by kernel_rfl
theorem pl134:plainFn Tryz.prog 134=true:=by kernel_rfl
theorem pl135:plainFn Tryz.prog 135=true:=by kernel_rfl
theorem pl138:plainFn Tryz.prog 138=true:=by kernel_rfl
theorem pl139:plainFn Tryz.prog 139=true:=by kernel_rfl
theorem pl14:plainFn Tryz.prog 14=true:=by kernel_rfl
theorem pl140:plainFn Tryz.prog 140=true:=by kernel_rfl
theorem pl141:plainFn Tryz.prog 141=true:=by kernel_rfl
theorem pl142:plainFn Tryz.prog 142=true:=by kernel_rfl
theorem pl143:plainFn Tryz.prog 143=true:=by kernel_rfl
theorem pl144:plainFn Tryz.prog 144=true:=by kernel_rfl
theorem pl145:plainFn Tryz.prog 145=true:=by kernel_rfl
theorem pl146:plainFn Tryz.prog 146=true:=by kernel_rfl
theorem pl147:plainFn Tryz.prog 147=true:=by kernel_rfl
theorem pl148:plainFn Tryz.prog 148=true:=by kernel_rfl
theorem pl149:plainFn Tryz.prog 149=true:=by kernel_rfl
theorem pl150:plainFn Tryz.prog 150=true:=by kernel_rfl
theorem pl151:plainFn Tryz.prog 151=true:=by kernel_rfl
theorem pl152:plainFn Tryz.prog 152=true:=by kernel_rfl
theorem pl153:plainFn Tryz.prog 153=true:=by kernel_rfl
theorem pl154:plainFn Tryz.prog 154=true:=by kernel_rfl
theorem pl155:plainFn Tryz.prog 155=true:=by kernel_rfl
theorem pl156:plainFn Tryz.prog 156=true:=by kernel_rfl
theorem pl157:plainFn Tryz.prog 157=true:=by kernel_rfl
theorem pl158:plainFn Tryz.prog 158=true:=by kernel_rfl
theorem pl159:plainFn Tryz.prog 159=true:=by kernel_rfl
theorem pl16:plainFn Tryz.prog 16=true:=by kernel_rfl
theorem pl160:plainFn Tryz.prog 160=true:=by kernel_rfl
theorem pl161:plainFn Tryz.prog 161=true:=by kernel_rfl
theorem pl162:plainFn Tryz.prog 162=true:=by kernel_rfl
theorem pl163:plainFn Tryz.prog 163=true:=by kernel_rfl
theorem pl164:plainFn Tryz.prog 164=true:=by kernel_rfl
theorem pl165:plainFn Tryz.prog 165=true:=by kernel_rfl
theorem pl166:plainFn Tryz.prog 166=true:=by kernel_rfl
theorem pl167:plainFn Tryz.prog 167=true:=by kernel_rfl
theorem pl17:plainFn Tryz.prog 17=true:=by kernel_rfl
theorem pl172:plainFn Tryz.prog 172=true:=by kernel_rfl
theorem pl173:plainFn Tryz.prog 173=true:=by kernel_rfl
theorem pl175:plainFn Tryz.prog 175=true:=by kernel_rfl
theorem pl176:plainFn Tryz.prog 176=true:=by kernel_rfl
theorem pl177:plainFn Tryz.prog 177=true:=by kernel_rfl
theorem pl178:plainFn Tryz.prog 178=true:=by kernel_rfl
theorem pl179:plainFn Tryz.prog 179=true:=by kernel_rfl
theorem pl180:plainFn Tryz.prog 180=true:=by kernel_rfl
theorem pl181:plainFn Tryz.prog 181=true:=by kernel_rfl
theorem pl182:plainFn Tryz.prog 182=true:=by kernel_rfl
theorem pl183:plainFn Tryz.prog 183=true:=by kernel_rfl
theorem pl184:plainFn Tryz.prog 184=true:=by kernel_rfl
theorem pl185:plainFn Tryz.prog 185=true:=by kernel_rfl
theorem pl186:plainFn Tryz.prog 186=true:=by kernel_rfl
theorem pl187:plainFn Tryz.prog 187=true:=by kernel_rfl
theorem pl188:plainFn Tryz.prog 188=true:=by kernel_rfl
theorem pl189:plainFn Tryz.prog 189=true:=by kernel_rfl
theorem pl190:plainFn Tryz.prog 190=true:=by kernel_rfl
theorem pl195:plainFn Tryz.prog 195=true:=by kernel_rfl
theorem pl196:plainFn Tryz.prog 196=true:=by kernel_rfl
theorem pl197:plainFn Tryz.prog 197=true:=by kernel_rfl
theorem pl198:plainFn Tryz.prog 198=true:=by kernel_rfl
theorem pl208:plainFn Tryz.prog 208=true:=by kernel_rfl
theorem pl209:plainFn Tryz.prog 209=true:=by kernel_rfl
theorem pl210:plainFn Tryz.prog 210=true:=by kernel_rfl
theorem pl25:plainFn Tryz.prog 25=true:=by kernel_rfl
theorem pl26:plainFn Tryz.prog 26=true:=by kernel_rfl
theorem pl27:plainFn Tryz.prog 27=true:=by kernel_rfl
theorem pl28:plainFn Tryz.prog 28=true:=by kernel_rfl
theorem pl29:plainFn Tryz.prog 29=true:=by kernel_rfl
theorem pl30:plainFn Tryz.prog 30=true:=by kernel_rfl
theorem pl31:plainFn Tryz.prog 31=true:=by kernel_rfl
theorem pl33:plainFn Tryz.prog 33=true:=by kernel_rfl
theorem pl34:plainFn Tryz.prog 34=true:=by kernel_rfl
theorem pl38:plainFn Tryz.prog 38=true:=by kernel_rfl
theorem pl40:plainFn Tryz.prog 40=true:=by kernel_rfl
theorem pl42:plainFn Tryz.prog 42=true:=by kernel_rfl
theorem pl43:plainFn Tryz.prog 43=true:=by kernel_rfl
theorem pl44:plainFn Tryz.prog 44=true:=by kernel_rfl
theorem pl45:plainFn Tryz.prog 45=true:=by kernel_rfl
theorem pl46:plainFn Tryz.prog 46=true:=by kernel_rfl
theorem pl47:plainFn Tryz.prog 47=true:=by kernel_rfl
theorem pl48:plainFn Tryz.prog 48=true:=by kernel_rfl
theorem pl49:plainFn Tryz.prog 49=true:=by kernel_rfl
theorem pl50:plainFn Tryz.prog 50=true:=by kernel_rfl
theorem pl51:plainFn Tryz.prog 51=true:=by kernel_rfl
theorem pl52:plainFn Tryz.prog 52=true:=by kernel_rfl
theorem pl53:plainFn Tryz.prog 53=true:=by kernel_rfl
theorem pl54:plainFn Tryz.prog 54=true:=by kernel_rfl
theorem pl55:plainFn Tryz.prog 55=true:=by kernel_rfl
theorem pl56:plainFn Tryz.prog 56=true:=by kernel_rfl
theorem pl57:plainFn Tryz.prog 57=true:=by kernel_rfl
theorem pl58:plainFn Tryz.prog 58=true:=by kernel_rfl
theorem pl59:plainFn Tryz.prog 59=true:=by kernel_rfl
theorem pl60:plainFn Tryz.prog 60=true:=by kernel_rfl
theorem pl61:plainFn Tryz.prog 61=true:=by kernel_rfl
theorem pl62:plainFn Tryz.prog 62=true:=by kernel_rfl
theorem pl63:plainFn Tryz.prog 63=true:=by kernel_rfl
theorem pl67:plainFn Tryz.prog 67=true:=by kernel_rfl
theorem pl68:plainFn Tryz.prog 68=true:=by kernel_rfl
theorem pl69:plainFn Tryz.prog 69=true:=by kernel_rfl
theorem pl70:plainFn Tryz.prog 70=true:=by kernel_rfl
theorem pl71:plainFn Tryz.prog 71=true:=by kernel_rfl
theorem pl72:plainFn Tryz.prog 72=true:=by kernel_rfl
theorem pl73:plainFn Tryz.prog 73=true:=by kernel_rfl
theorem pl74:plainFn Tryz.prog 74=true:=by kernel_rfl
theorem pl75:plainFn Tryz.prog 75=true:=by kernel_rfl
theorem pl76:plainFn Tryz.prog 76=true:=by kernel_rfl
theorem pl77:plainFn Tryz.prog 77=true:=by kernel_rfl
theorem pl78:plainFn Tryz.prog 78=true:=by kernel_rfl
theorem pl79:plainFn Tryz.prog 79=true:=by kernel_rfl
theorem pl80:plainFn Tryz.prog 80=true:=by kernel_rfl
theorem pl81:plainFn Tryz.prog 81=true:=by kernel_rfl
theorem pl82:plainFn Tryz.prog 82=true:=by kernel_rfl
theorem pl83:plainFn Tryz.prog 83=true:=by kernel_rfl
theorem pl86:plainFn Tryz.prog 86=true:=by kernel_rfl
theorem pl87:plainFn Tryz.prog 87=true:=by kernel_rfl
theorem pl88:plainFn Tryz.prog 88=true:=by kernel_rfl
theorem pl89:plainFn Tryz.prog 89=true:=by kernel_rfl
theorem pl9:plainFn Tryz.prog 9=true:=by kernel_rfl
theorem pl90:plainFn Tryz.prog 90=true:=by kernel_rfl
theorem pl91:plainFn Tryz.prog 91=true:=by kernel_rfl
theorem pl92:plainFn Tryz.prog 92=true:=by kernel_rfl
theorem pl93:plainFn Tryz.prog 93=true:=by kernel_rfl
theorem pl94:plainFn Tryz.prog 94=true:=by kernel_rfl
theorem pl95:plainFn Tryz.prog 95=true:=by kernel_rfl
theorem pl96:plainFn Tryz.prog 96=true:=by kernel_rfl
theorem pl97:plainFn Tryz.prog 97=true:=by kernel_rfl
theorem pl98:plainFn Tryz.prog 98=true:=by kernel_rfl
theorem pl99:plainFn Tryz.prog 99=true:=by kernel_rfl
theorem sT24:SlT Tryz.prog 24 Int:=SlT.of (b:=8) (by kernel_rfl) rfl
theorem sT27:SlT Tryz.prog 27 DRes:=SlT.of (b:=40) (by kernel_rfl) rfl
theorem sT28:SlT Tryz.prog 28 DObj:=SlT.of (b:=152) (by kernel_rfl) rfl
theorem sT33:SlT Tryz.prog 33 DTap:=SlT.of (b:=48) (by kernel_rfl) rfl
theorem sT48:SlT Tryz.prog 48 DMsg:=SlT.of (b:=16) (by kernel_rfl) rfl
theorem sT76:SlT Tryz.prog 76 Bool:=SlT.of (b:=1) (by kernel_rfl) rfl
theorem sz152:szV Tryz.prog 152=some 2:=by kernel_rfl
theorem sz3:szV Tryz.prog 3=some 1:=by kernel_rfl
theorem sz4:szV Tryz.prog 4=some 1:=by kernel_rfl
theorem sz47:szV Tryz.prog 47=some 5:=by kernel_rfl
theorem sz5:szV Tryz.prog 5=some 1:=by kernel_rfl
theorem sz50:szV Tryz.prog 50=some 13:=by kernel_rfl
theorem sz95:szV Tryz.prog 95=some 6:=by kernel_rfl
theorem zv104:zeroV Tryz.prog 104=some (.agg #[.slice none 0 0,.slice none 0 0,.int .i64 0,.int .i64 0,.int .i64 0]):=by kernel_rfl
theorem zv125:zeroV Tryz.prog 125=some (.agg #[.int .i64 0,.int .i64 0]):=by kernel_rfl
theorem zv152:zeroV Tryz.prog 152=some (.agg #[.int .i64 0,.int .i64 0]):=by kernel_rfl
theorem zv26:zeroV Tryz.prog 26=some (.agg #[.slice none 0 0]):=by kernel_rfl
theorem zv30:zeroV Tryz.prog 30=some (.agg #[.int .i64 0,.int .i64 0,.int .i64 0,.slice none 0 0]):=by kernel_rfl
theorem zv32:zeroV Tryz.prog 32=some (.agg #[.slice none 0 0,.int .i64 0,.int .i64 0,.int .i64 0,.slice none 0 0]):=by kernel_rfl
theorem zv35:zeroV Tryz.prog 35=some (.agg #[.int .i64 0,.int .i64 0,.int .i64 0]):=by kernel_rfl
theorem zv37:zeroV Tryz.prog 37=some (.agg #[.slice none 0 0,.slice none 0 0,.slice none 0 0,.slice none 0 0,.int .i64 0,.int .i64 0,.int .i64 0,.slice none 0 0,.slice none 0 0,.int .i64 0,.int .i64 0,.int .i64 0,.int .i64 0,.int .i64 0,.int .i64 0,.int .i64 0]):=by kernel_rfl
theorem zv47:zeroV Tryz.prog 47=some (.agg #[.bool false,.int .i64 0,.int .i64 0,.int .i64 0,.int .i64 0]):=by kernel_rfl
theorem zv50:zeroV Tryz.prog 50=some (.agg #[.int .i64 0,.int .i64 0,.int .i64 0,.int .i64 0,.int .i64 0,.int .i64 0,.int .i64 0,.int .i64 0,.int .i64 0,.bool false,.slice none 0 0,.slice none 0 0,.slice none 0 0]):=by kernel_rfl
theorem zv58:zeroV Tryz.prog 58=some (.agg #[.int .i64 0,.int .i64 0,.int .i64 0,.int .i64 0,.int .i64 0,.int .i64 0]):=by kernel_rfl
theorem zv95:zeroV Tryz.prog 95=some (.agg #[.int .i64 0,.int .i64 0,.int .i64 0,.int .i64 0,.int .i64 0,.int .i64 0]):=by kernel_rfl
instance:AgC Tryz.prog 104 (some 5):=⟨ag104⟩
instance:AgC Tryz.prog 125 (some 2):=⟨ag125⟩
instance:AgC Tryz.prog 152 (some 2):=⟨ag152⟩
instance:AgC Tryz.prog 22 none:=⟨ag22⟩
instance:AgC Tryz.prog 24 none:=⟨ag24⟩
instance:AgC Tryz.prog 26 (some 1):=⟨ag26⟩
instance:AgC Tryz.prog 27 none:=⟨ag27⟩
instance:AgC Tryz.prog 28 none:=⟨ag28⟩
instance:AgC Tryz.prog 3 none:=⟨ag3⟩
instance:AgC Tryz.prog 30 (some 4):=⟨ag30⟩
instance:AgC Tryz.prog 32 (some 5):=⟨ag32⟩
instance:AgC Tryz.prog 33 none:=⟨ag33⟩
instance:AgC Tryz.prog 35 (some 3):=⟨ag35⟩
instance:AgC Tryz.prog 37 (some 16):=⟨ag37⟩
instance:AgC Tryz.prog 4 none:=⟨ag4⟩
instance:AgC Tryz.prog 47 (some 5):=⟨ag47⟩
instance:AgC Tryz.prog 48 none:=⟨ag48⟩
instance:AgC Tryz.prog 5 none:=⟨ag5⟩
instance:AgC Tryz.prog 50 (some 13):=⟨ag50⟩
instance:AgC Tryz.prog 58 (some 6):=⟨ag58⟩
instance:AgC Tryz.prog 95 (some 6):=⟨ag95⟩
instance:FoC Tryz.prog 104 0 0 (some 1):=⟨fo104_0⟩
instance:FoC Tryz.prog 104 1 1 none:=⟨fo104_1⟩
instance:FoC Tryz.prog 104 2 2 (some 3):=⟨fo104_2⟩
instance:FoC Tryz.prog 120 0 0 none:=⟨fo120_0⟩
instance:FoC Tryz.prog 120 1 1 none:=⟨fo120_1⟩
instance:FoC Tryz.prog 120 2 2 none:=⟨fo120_2⟩
instance:FoC Tryz.prog 152 0 0 none:=⟨fo152_0⟩
instance:FoC Tryz.prog 152 1 1 none:=⟨fo152_1⟩
instance:FoC Tryz.prog 26 0 0 none:=⟨fo26_0⟩
instance:FoC Tryz.prog 30 0 0 none:=⟨fo30_0⟩
instance:FoC Tryz.prog 30 1 1 none:=⟨fo30_1⟩
instance:FoC Tryz.prog 30 2 2 none:=⟨fo30_2⟩
instance:FoC Tryz.prog 30 3 3 none:=⟨fo30_3⟩
instance:FoC Tryz.prog 32 0 0 none:=⟨fo32_0⟩
instance:FoC Tryz.prog 32 1 1 (some 4):=⟨fo32_1⟩
instance:FoC Tryz.prog 35 0 0 none:=⟨fo35_0⟩
instance:FoC Tryz.prog 35 1 1 none:=⟨fo35_1⟩
instance:FoC Tryz.prog 35 2 2 none:=⟨fo35_2⟩
instance:FoC Tryz.prog 37 0 0 (some 1):=⟨fo37_0⟩
instance:FoC Tryz.prog 37 1 1 none:=⟨fo37_1⟩
instance:FoC Tryz.prog 37 2 2 none:=⟨fo37_2⟩
instance:FoC Tryz.prog 37 3 3 (some 5):=⟨fo37_3⟩
instance:FoC Tryz.prog 37 4 8 none:=⟨fo37_4⟩
instance:FoC Tryz.prog 37 5 9 none:=⟨fo37_5⟩
instance:FoC Tryz.prog 37 6 10 none:=⟨fo37_6⟩
instance:FoC Tryz.prog 37 7 11 (some 3):=⟨fo37_7⟩
instance:FoC Tryz.prog 37 8 14 none:=⟨fo37_8⟩
instance:FoC Tryz.prog 37 9 15 none:=⟨fo37_9⟩
instance:FoC Tryz.prog 47 0 0 none:=⟨fo47_0⟩
instance:FoC Tryz.prog 47 1 1 none:=⟨fo47_1⟩
instance:FoC Tryz.prog 47 2 2 (some 3):=⟨fo47_2⟩
instance:FoC Tryz.prog 50 0 0 none:=⟨fo50_0⟩
instance:FoC Tryz.prog 50 1 1 none:=⟨fo50_1⟩
instance:FoC Tryz.prog 50 10 10 none:=⟨fo50_10⟩
instance:FoC Tryz.prog 50 11 11 none:=⟨fo50_11⟩
instance:FoC Tryz.prog 50 12 12 none:=⟨fo50_12⟩
instance:FoC Tryz.prog 50 2 2 none:=⟨fo50_2⟩
instance:FoC Tryz.prog 50 3 3 none:=⟨fo50_3⟩
instance:FoC Tryz.prog 50 4 4 none:=⟨fo50_4⟩
instance:FoC Tryz.prog 50 5 5 none:=⟨fo50_5⟩
instance:FoC Tryz.prog 50 6 6 none:=⟨fo50_6⟩
instance:FoC Tryz.prog 50 7 7 none:=⟨fo50_7⟩
instance:FoC Tryz.prog 50 8 8 none:=⟨fo50_8⟩
instance:FoC Tryz.prog 50 9 9 none:=⟨fo50_9⟩
instance:FoC Tryz.prog 58 0 0 none:=⟨fo58_0⟩
instance:FoC Tryz.prog 58 1 1 none:=⟨fo58_1⟩
instance:FoC Tryz.prog 58 2 2 none:=⟨fo58_2⟩
instance:FoC Tryz.prog 58 3 3 none:=⟨fo58_3⟩
instance:FoC Tryz.prog 58 4 4 none:=⟨fo58_4⟩
instance:FoC Tryz.prog 58 5 5 none:=⟨fo58_5⟩
instance:FoC Tryz.prog 95 0 0 none:=⟨fo95_0⟩
instance:FoC Tryz.prog 95 1 1 none:=⟨fo95_1⟩
instance:FoC Tryz.prog 95 2 2 none:=⟨fo95_2⟩
instance:FoC Tryz.prog 95 3 3 none:=⟨fo95_3⟩
instance:FoC Tryz.prog 95 4 4 none:=⟨fo95_4⟩
instance:FoC Tryz.prog 95 5 5 none:=⟨fo95_5⟩
instance:PlC Tryz.prog 100:=⟨pl100⟩
instance:PlC Tryz.prog 101:=⟨pl101⟩
instance:PlC Tryz.prog 102:=⟨pl102⟩
instance:PlC Tryz.prog 103:=⟨pl103⟩
instance:PlC Tryz.prog 104:=⟨pl104⟩
instance:PlC Tryz.prog 105:=⟨pl105⟩
instance:PlC Tryz.prog 106:=⟨pl106⟩
instance:PlC Tryz.prog 107:=⟨pl107⟩
instance:PlC Tryz.prog 108:=⟨pl108⟩
instance:PlC Tryz.prog 109:=⟨pl109⟩
instance:PlC Tryz.prog 110:=⟨pl110⟩
instance:PlC Tryz.prog 111:=⟨pl111⟩
instance:PlC Tryz.prog 112:=⟨pl112⟩
instance:PlC Tryz.prog 113:=⟨pl113⟩
instance:PlC Tryz.prog 114:=⟨pl114⟩
instance:PlC Tryz.prog 115:=⟨pl115⟩
instance:PlC Tryz.prog 116:=⟨pl116⟩
instance:PlC Tryz.prog 117:=⟨pl117⟩
instance:PlC Tryz.prog 118:=⟨pl118⟩
instance:PlC Tryz.prog 119:=⟨pl119⟩
instance:PlC Tryz.prog 12:=⟨pl12⟩
instance:PlC Tryz.prog 120:=⟨pl120⟩
instance:PlC Tryz.prog 125:=⟨pl125⟩
instance:PlC Tryz.prog 126:=⟨pl126⟩
instance:PlC Tryz.prog 127:=⟨pl127⟩
instance:PlC Tryz.prog 128:=⟨pl128⟩
instance:PlC Tryz.prog 129:=⟨pl129⟩
instance:PlC Tryz.prog 13:=⟨pl13⟩
instance:PlC Tryz.prog 130:=⟨pl130⟩
instance:PlC Tryz.prog 131:=⟨pl131⟩
instance:PlC Tryz.prog 132:=⟨pl132⟩
instance:PlC Tryz.prog 134:=⟨pl134⟩
instance:PlC Tryz.prog 135:=⟨pl135⟩
instance:PlC Tryz.prog 138:=⟨pl138⟩
instance:PlC Tryz.prog 139:=⟨pl139⟩
instance:PlC Tryz.prog 14:=⟨pl14⟩
instance:PlC Tryz.prog 140:=⟨pl140⟩
instance:PlC Tryz.prog 141:=⟨pl141⟩
instance:PlC Tryz.prog 142:=⟨pl142⟩
instance:PlC Tryz.prog 143:=⟨pl143⟩
instance:PlC Tryz.prog 144:=⟨pl144⟩
instance:PlC Tryz.prog 145:=⟨pl145⟩
instance:PlC Tryz.prog 146:=⟨pl146⟩
instance:PlC Tryz.prog 147:=⟨pl147⟩
instance:PlC Tryz.prog 148:=⟨pl148⟩
instance:PlC Tryz.prog 149:=⟨pl149⟩
instance:PlC Tryz.prog 150:=⟨pl150⟩
instance:PlC Tryz.prog 151:=⟨pl151⟩
instance:PlC Tryz.prog 152:=⟨pl152⟩
instance:PlC Tryz.prog 153:=⟨pl153⟩
instance:PlC Tryz.prog 154:=⟨pl154⟩
instance:PlC Tryz.prog 155:=⟨pl155⟩
instance:PlC Tryz.prog 156:=⟨pl156⟩
instance:PlC Tryz.prog 157:=⟨pl157⟩
instance:PlC Tryz.prog 158:=⟨pl158⟩
instance:PlC Tryz.prog 159:=⟨pl159⟩
instance:PlC Tryz.prog 16:=⟨pl16⟩
instance:PlC Tryz.prog 160:=⟨pl160⟩
instance:PlC Tryz.prog 161:=⟨pl161⟩
instance:PlC Tryz.prog 162:=⟨pl162⟩
instance:PlC Tryz.prog 163:=⟨pl163⟩
instance:PlC Tryz.prog 164:=⟨pl164⟩
instance:PlC Tryz.prog 165:=⟨pl165⟩
instance:PlC Tryz.prog 166:=⟨pl166⟩
instance:PlC Tryz.prog 167:=⟨pl167⟩
instance:PlC Tryz.prog 17:=⟨pl17⟩
instance:PlC Tryz.prog 172:=⟨pl172⟩
instance:PlC Tryz.prog 173:=⟨pl173⟩
instance:PlC Tryz.prog 175:=⟨pl175⟩
instance:PlC Tryz.prog 176:=⟨pl176⟩
instance:PlC Tryz.prog 177:=⟨pl177⟩
instance:PlC Tryz.prog 178:=⟨pl178⟩
instance:PlC Tryz.prog 179:=⟨pl179⟩
instance:PlC Tryz.prog 180:=⟨pl180⟩
instance:PlC Tryz.prog 181:=⟨pl181⟩
instance:PlC Tryz.prog 182:=⟨pl182⟩
instance:PlC Tryz.prog 183:=⟨pl183⟩
instance:PlC Tryz.prog 184:=⟨pl184⟩
instance:PlC Tryz.prog 185:=⟨pl185⟩
instance:PlC Tryz.prog 186:=⟨pl186⟩
instance:PlC Tryz.prog 187:=⟨pl187⟩
instance:PlC Tryz.prog 188:=⟨pl188⟩
instance:PlC Tryz.prog 189:=⟨pl189⟩
instance:PlC Tryz.prog 190:=⟨pl190⟩
instance:PlC Tryz.prog 195:=⟨pl195⟩
instance:PlC Tryz.prog 196:=⟨pl196⟩
instance:PlC Tryz.prog 197:=⟨pl197⟩
instance:PlC Tryz.prog 198:=⟨pl198⟩
instance:PlC Tryz.prog 208:=⟨pl208⟩
instance:PlC Tryz.prog 209:=⟨pl209⟩
instance:PlC Tryz.prog 210:=⟨pl210⟩
instance:PlC Tryz.prog 25:=⟨pl25⟩
instance:PlC Tryz.prog 26:=⟨pl26⟩
instance:PlC Tryz.prog 27:=⟨pl27⟩
instance:PlC Tryz.prog 28:=⟨pl28⟩
instance:PlC Tryz.prog 29:=⟨pl29⟩
instance:PlC Tryz.prog 30:=⟨pl30⟩
instance:PlC Tryz.prog 31:=⟨pl31⟩
instance:PlC Tryz.prog 33:=⟨pl33⟩
instance:PlC Tryz.prog 34:=⟨pl34⟩
instance:PlC Tryz.prog 38:=⟨pl38⟩
instance:PlC Tryz.prog 40:=⟨pl40⟩
instance:PlC Tryz.prog 42:=⟨pl42⟩
instance:PlC Tryz.prog 43:=⟨pl43⟩
instance:PlC Tryz.prog 44:=⟨pl44⟩
instance:PlC Tryz.prog 45:=⟨pl45⟩
instance:PlC Tryz.prog 46:=⟨pl46⟩
instance:PlC Tryz.prog 47:=⟨pl47⟩
instance:PlC Tryz.prog 48:=⟨pl48⟩
instance:PlC Tryz.prog 49:=⟨pl49⟩
instance:PlC Tryz.prog 50:=⟨pl50⟩
instance:PlC Tryz.prog 51:=⟨pl51⟩
instance:PlC Tryz.prog 52:=⟨pl52⟩
instance:PlC Tryz.prog 53:=⟨pl53⟩
instance:PlC Tryz.prog 54:=⟨pl54⟩
instance:PlC Tryz.prog 55:=⟨pl55⟩
instance:PlC Tryz.prog 56:=⟨pl56⟩
instance:PlC Tryz.prog 57:=⟨pl57⟩
instance:PlC Tryz.prog 58:=⟨pl58⟩
instance:PlC Tryz.prog 59:=⟨pl59⟩
instance:PlC Tryz.prog 60:=⟨pl60⟩
instance:PlC Tryz.prog 61:=⟨pl61⟩
instance:PlC Tryz.prog 62:=⟨pl62⟩
instance:PlC Tryz.prog 63:=⟨pl63⟩
instance:PlC Tryz.prog 67:=⟨pl67⟩
instance:PlC Tryz.prog 68:=⟨pl68⟩
instance:PlC Tryz.prog 69:=⟨pl69⟩
instance:PlC Tryz.prog 70:=⟨pl70⟩
instance:PlC Tryz.prog 71:=⟨pl71⟩
instance:PlC Tryz.prog 72:=⟨pl72⟩
instance:PlC Tryz.prog 73:=⟨pl73⟩
instance:PlC Tryz.prog 74:=⟨pl74⟩
instance:PlC Tryz.prog 75:=⟨pl75⟩
instance:PlC Tryz.prog 76:=⟨pl76⟩
instance:PlC Tryz.prog 77:=⟨pl77⟩
instance:PlC Tryz.prog 78:=⟨pl78⟩
instance:PlC Tryz.prog 79:=⟨pl79⟩
instance:PlC Tryz.prog 80:=⟨pl80⟩
instance:PlC Tryz.prog 81:=⟨pl81⟩
instance:PlC Tryz.prog 82:=⟨pl82⟩
instance:PlC Tryz.prog 83:=⟨pl83⟩
instance:PlC Tryz.prog 86:=⟨pl86⟩
instance:PlC Tryz.prog 87:=⟨pl87⟩
instance:PlC Tryz.prog 88:=⟨pl88⟩
instance:PlC Tryz.prog 89:=⟨pl89⟩
instance:PlC Tryz.prog 9:=⟨pl9⟩
instance:PlC Tryz.prog 90:=⟨pl90⟩
instance:PlC Tryz.prog 91:=⟨pl91⟩
instance:PlC Tryz.prog 92:=⟨pl92⟩
instance:PlC Tryz.prog 93:=⟨pl93⟩
instance:PlC Tryz.prog 94:=⟨pl94⟩
instance:PlC Tryz.prog 95:=⟨pl95⟩
instance:PlC Tryz.prog 96:=⟨pl96⟩
instance:PlC Tryz.prog 97:=⟨pl97⟩
instance:PlC Tryz.prog 98:=⟨pl98⟩
instance:PlC Tryz.prog 99:=⟨pl99⟩
instance:ZvC Tryz.prog 104:=⟨_,zv104⟩
instance:ZvC Tryz.prog 125:=⟨_,zv125⟩
instance:ZvC Tryz.prog 152:=⟨_,zv152⟩
instance:ZvC Tryz.prog 26:=⟨_,zv26⟩
instance:ZvC Tryz.prog 30:=⟨_,zv30⟩
instance:ZvC Tryz.prog 32:=⟨_,zv32⟩
instance:ZvC Tryz.prog 35:=⟨_,zv35⟩
instance:ZvC Tryz.prog 37:=⟨_,zv37⟩
instance:ZvC Tryz.prog 47:=⟨_,zv47⟩
instance:ZvC Tryz.prog 50:=⟨_,zv50⟩
instance:ZvC Tryz.prog 58:=⟨_,zv58⟩
instance:ZvC Tryz.prog 95:=⟨_,zv95⟩
instance:UnC Tryz.prog 22 (.slice 5):=⟨Tryz.underlying22⟩
instance:UnC Tryz.prog 24 (.slice 3):=⟨Tryz.underlying24⟩
instance:UnC Tryz.prog 27 (.slice 47):=⟨Tryz.underlying27⟩
instance:UnC Tryz.prog 28 (.slice 50):=⟨Tryz.underlying28⟩
instance:UnC Tryz.prog 33 (.slice 95):=⟨Tryz.underlying33⟩
instance:UnC Tryz.prog 48 (.slice 152):=⟨Tryz.underlying48⟩
instance:UnC Tryz.prog 51 (.slice 104):=⟨Tryz.underlying51⟩
instance:UnC Tryz.prog 52 (.slice 60):=⟨Tryz.underlying52⟩
instance:UnC Tryz.prog 76 (.slice 4):=⟨Tryz.underlying76⟩
instance:UnC Tryz.prog 165 (.slice 37):=⟨Tryz.underlying165⟩
instance:UnC Tryz.prog 192 (.slice 194):=⟨Tryz.underlying192⟩
end Go.Kx
