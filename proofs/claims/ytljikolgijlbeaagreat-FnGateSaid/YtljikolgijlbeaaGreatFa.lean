/- Closed facts of the program's types and functions. Printed by drive.py. -/
import Derived.Test.YtljikolgijlbeaaGreatProg
import Derived.Test.YtljikolgijlbeaaGreatGo
import Derived.Test.YtljikolgijlbeaaGreatDat
import Derived.Test.YtljikolgijlbeaaGreatDel
import Derived.Test.YtljikolgijlbeaaGreatTap
namespace Go.Kx
open Go Go.RowKit Go.Proofs
set_option maxRecDepth 10000
set_option maxHeartbeats 8000000
set_option linter.unusedVariables false
set_option linter.unusedSimpArgs false
theorem ag102:aggV Tryz.prog 102=some none:=by kernel_rfl
theorem ag104:aggV Tryz.prog 104=some (some 13):=by kernel_rfl
theorem ag138:aggV Tryz.prog 138=some (some 5):=by kernel_rfl
theorem ag170:aggV Tryz.prog 170=some (some 2):=by kernel_rfl
theorem ag25:aggV Tryz.prog 25=some none:=by kernel_rfl
theorem ag27:aggV Tryz.prog 27=some (some 2):=by kernel_rfl
theorem ag3:aggV Tryz.prog 3=some none:=by kernel_rfl
theorem ag32:aggV Tryz.prog 32=some (some 2):=by kernel_rfl
theorem ag37:aggV Tryz.prog 37=some (some 6):=by kernel_rfl
theorem ag4:aggV Tryz.prog 4=some none:=by kernel_rfl
theorem ag5:aggV Tryz.prog 5=some none:=by kernel_rfl
theorem ag52:aggV Tryz.prog 52=some none:=by kernel_rfl
theorem ag54:aggV Tryz.prog 54=some (some 1):=by kernel_rfl
theorem ag56:aggV Tryz.prog 56=some (some 3):=by kernel_rfl
theorem ag58:aggV Tryz.prog 58=some (some 5):=by kernel_rfl
theorem ag59:aggV Tryz.prog 59=some none:=by kernel_rfl
theorem ag60:aggV Tryz.prog 60=some none:=by kernel_rfl
theorem ag62:aggV Tryz.prog 62=some (some 4):=by kernel_rfl
theorem ag64:aggV Tryz.prog 64=some (some 5):=by kernel_rfl
theorem ag65:aggV Tryz.prog 65=some none:=by kernel_rfl
theorem ag67:aggV Tryz.prog 67=some (some 16):=by kernel_rfl
theorem ag78:aggV Tryz.prog 78=some (some 1):=by kernel_rfl
theorem ag82:aggV Tryz.prog 82=some (some 6):=by kernel_rfl
theorem eg138:Program.eqGuardType Tryz.prog Tryz.prog.depth 138=false:=by kernel_rfl
theorem eg170:Program.eqGuardType Tryz.prog Tryz.prog.depth 170=false:=by kernel_rfl
theorem eg32:Program.eqGuardType Tryz.prog Tryz.prog.depth 32=false:=by kernel_rfl
theorem eq138:∀ (a b:DRes) (w:World),(Op.equalIn 10000 138 (.agg #[.bool a.live,.int .i64 a.parent,.int .i64 a.bal.pages,.int .i64 a.bal.rent,.int .i64 a.bal.cpu]) (.agg #[.bool b.live,.int .i64 b.parent,.int .i64 b.bal.pages,.int .i64 b.bal.rent,.int .i64 b.bal.cpu])).run Tryz.prog w=.ok (decide (a=b)) w:=fun a b w=>EqT.top (n:=2) (EqT.agg (n:=1) Tryz.underlying138 (by kernel_rfl) (EqF.one rfl ag4 rfl rfl (EqT.bool Tryz.underlying4) (EqF.one rfl ag3 rfl rfl (EqT.int Tryz.underlying3) (EqF.more rfl ag56 (EqT.agg (n:=0) Tryz.underlying56 (by kernel_rfl) (EqF.one rfl ag3 rfl rfl (EqT.int Tryz.underlying3) (EqF.one rfl ag3 rfl rfl (EqT.int Tryz.underlying3) (EqF.one rfl ag3 rfl rfl (EqT.int Tryz.underlying3) EqF.nil)))) EqF.nil)))) (by decide) (by
  obtain ⟨x0,x1,⟨x2,x3,x4⟩⟩:=a
  obtain ⟨y0,y1,⟨y2,y3,y4⟩⟩:=b
  simp [DRes.mk.injEq,DAmt.mk.injEq,Bool.beq_eq_decide_eq,Bool.decide_and]) w
theorem eq170:∀ (a b:DMsg) (w:World),(Op.equalIn 10000 170 (.agg #[.int .i64 a.src,.int .i64 a.n]) (.agg #[.int .i64 b.src,.int .i64 b.n])).run Tryz.prog w=.ok (decide (a=b)) w:=fun a b w=>EqT.top (n:=1) (EqT.agg (n:=0) Tryz.underlying170 (by kernel_rfl) (EqF.one rfl ag3 rfl rfl (EqT.int Tryz.underlying3) (EqF.one rfl ag3 rfl rfl (EqT.int Tryz.underlying3) EqF.nil))) (by decide) (by
  obtain ⟨x0,x1⟩:=a
  obtain ⟨y0,y1⟩:=b
  simp [DMsg.mk.injEq,Bool.beq_eq_decide_eq,Bool.decide_and]) w
theorem eq32:∀ (a b:DReply) (w:World),(Op.equalIn 10000 32 (.agg #[.int .i64 a.code,.int .i64 a.val]) (.agg #[.int .i64 b.code,.int .i64 b.val])).run Tryz.prog w=.ok (decide (a=b)) w:=fun a b w=>EqT.top (n:=1) (EqT.agg (n:=0) Tryz.underlying32 (by kernel_rfl) (EqF.one rfl ag3 rfl rfl (EqT.int Tryz.underlying3) (EqF.one rfl ag3 rfl rfl (EqT.int Tryz.underlying3) EqF.nil))) (by decide) (by
  obtain ⟨x0,x1⟩:=a
  obtain ⟨y0,y1⟩:=b
  simp [DReply.mk.injEq,Bool.beq_eq_decide_eq,Bool.decide_and]) w
theorem fo104_0:fo Tryz.prog 104 0=some (0,none):=by kernel_rfl
theorem fo104_1:fo Tryz.prog 104 1=some (1,none):=by kernel_rfl
theorem fo104_10:fo Tryz.prog 104 10=some (10,none):=by kernel_rfl
theorem fo104_11:fo Tryz.prog 104 11=some (11,none):=by kernel_rfl
theorem fo104_12:fo Tryz.prog 104 12=some (12,none):=by kernel_rfl
theorem fo104_2:fo Tryz.prog 104 2=some (2,none):=by kernel_rfl
theorem fo104_3:fo Tryz.prog 104 3=some (3,none):=by kernel_rfl
theorem fo104_4:fo Tryz.prog 104 4=some (4,none):=by kernel_rfl
theorem fo104_5:fo Tryz.prog 104 5=some (5,none):=by kernel_rfl
theorem fo104_6:fo Tryz.prog 104 6=some (6,none):=by kernel_rfl
theorem fo104_7:fo Tryz.prog 104 7=some (7,none):=by kernel_rfl
theorem fo104_8:fo Tryz.prog 104 8=some (8,none):=by kernel_rfl
theorem fo104_9:fo Tryz.prog 104 9=some (9,none):=by kernel_rfl
theorem fo138_0:fo Tryz.prog 138 0=some (0,none):=by kernel_rfl
theorem fo138_1:fo Tryz.prog 138 1=some (1,none):=by kernel_rfl
theorem fo138_2:fo Tryz.prog 138 2=some (2,some 3):=by kernel_rfl
theorem fo165_0:fo Tryz.prog 165 0=some (0,some 16):=by kernel_rfl
theorem fo165_1:fo Tryz.prog 165 1=some (16,none):=by kernel_rfl
theorem fo165_2:fo Tryz.prog 165 2=some (17,none):=by kernel_rfl
theorem fo165_3:fo Tryz.prog 165 3=some (18,none):=by kernel_rfl
theorem fo170_0:fo Tryz.prog 170 0=some (0,none):=by kernel_rfl
theorem fo170_1:fo Tryz.prog 170 1=some (1,none):=by kernel_rfl
theorem fo27_0:fo Tryz.prog 27 0=some (0,none):=by kernel_rfl
theorem fo27_1:fo Tryz.prog 27 1=some (1,none):=by kernel_rfl
theorem fo32_0:fo Tryz.prog 32 0=some (0,none):=by kernel_rfl
theorem fo32_1:fo Tryz.prog 32 1=some (1,none):=by kernel_rfl
theorem fo37_0:fo Tryz.prog 37 0=some (0,none):=by kernel_rfl
theorem fo37_1:fo Tryz.prog 37 1=some (1,none):=by kernel_rfl
theorem fo37_2:fo Tryz.prog 37 2=some (2,none):=by kernel_rfl
theorem fo37_3:fo Tryz.prog 37 3=some (3,none):=by kernel_rfl
theorem fo37_4:fo Tryz.prog 37 4=some (4,none):=by kernel_rfl
theorem fo37_5:fo Tryz.prog 37 5=some (5,none):=by kernel_rfl
theorem fo54_0:fo Tryz.prog 54 0=some (0,none):=by kernel_rfl
theorem fo56_0:fo Tryz.prog 56 0=some (0,none):=by kernel_rfl
theorem fo56_1:fo Tryz.prog 56 1=some (1,none):=by kernel_rfl
theorem fo56_2:fo Tryz.prog 56 2=some (2,none):=by kernel_rfl
theorem fo58_0:fo Tryz.prog 58 0=some (0,some 1):=by kernel_rfl
theorem fo58_1:fo Tryz.prog 58 1=some (1,none):=by kernel_rfl
theorem fo58_2:fo Tryz.prog 58 2=some (2,some 3):=by kernel_rfl
theorem fo62_0:fo Tryz.prog 62 0=some (0,none):=by kernel_rfl
theorem fo62_1:fo Tryz.prog 62 1=some (1,none):=by kernel_rfl
theorem fo62_2:fo Tryz.prog 62 2=some (2,none):=by kernel_rfl
theorem fo62_3:fo Tryz.prog 62 3=some (3,none):=by kernel_rfl
theorem fo64_0:fo Tryz.prog 64 0=some (0,none):=by kernel_rfl
theorem fo64_1:fo Tryz.prog 64 1=some (1,some 4):=by kernel_rfl
theorem fo67_0:fo Tryz.prog 67 0=some (0,some 1):=by kernel_rfl
theorem fo67_1:fo Tryz.prog 67 1=some (1,none):=by kernel_rfl
theorem fo67_2:fo Tryz.prog 67 2=some (2,none):=by kernel_rfl
theorem fo67_3:fo Tryz.prog 67 3=some (3,some 5):=by kernel_rfl
theorem fo67_4:fo Tryz.prog 67 4=some (8,none):=by kernel_rfl
theorem fo67_5:fo Tryz.prog 67 5=some (9,none):=by kernel_rfl
theorem fo67_6:fo Tryz.prog 67 6=some (10,none):=by kernel_rfl
theorem fo67_7:fo Tryz.prog 67 7=some (11,some 3):=by kernel_rfl
theorem fo67_8:fo Tryz.prog 67 8=some (14,none):=by kernel_rfl
theorem fo67_9:fo Tryz.prog 67 9=some (15,none):=by kernel_rfl
theorem fo78_0:fo Tryz.prog 78 0=some (0,none):=by kernel_rfl
theorem fo82_0:fo Tryz.prog 82 0=some (0,none):=by kernel_rfl
theorem fo82_1:fo Tryz.prog 82 1=some (1,none):=by kernel_rfl
theorem fo82_2:fo Tryz.prog 82 2=some (2,none):=by kernel_rfl
theorem fo82_3:fo Tryz.prog 82 3=some (3,none):=by kernel_rfl
theorem fo82_4:fo Tryz.prog 82 4=some (4,none):=by kernel_rfl
theorem fo82_5:fo Tryz.prog 82 5=some (5,none):=by kernel_rfl
theorem pl10:plainFn Tryz.prog 10=true:=by kernel_rfl
theorem pl11:plainFn Tryz.prog 11=true:=by kernel_rfl
theorem pl111:plainFn Tryz.prog 111=true:=by kernel_rfl
theorem pl112:plainFn Tryz.prog 112=true:=by kernel_rfl
theorem pl113:plainFn Tryz.prog 113=true:=by kernel_rfl
theorem pl114:plainFn Tryz.prog 114=true:=by kernel_rfl
theorem pl115:plainFn Tryz.prog 115=true:=by kernel_rfl
theorem pl116:plainFn Tryz.prog 116=true:=by kernel_rfl
theorem pl117:plainFn Tryz.prog 117=true:=by kernel_rfl
theorem pl118:plainFn Tryz.prog 118=true:=by kernel_rfl
theorem pl119:plainFn Tryz.prog 119=true:=by kernel_rfl
theorem pl12:plainFn Tryz.prog 12=true:=by kernel_rfl
theorem pl120:plainFn Tryz.prog 120=true:=by kernel_rfl
theorem pl121:plainFn Tryz.prog 121=true:=by kernel_rfl
theorem pl122:plainFn Tryz.prog 122=true:=by kernel_rfl
theorem pl123:plainFn Tryz.prog 123=true:=by kernel_rfl
theorem pl124:plainFn Tryz.prog 124=true:=by kernel_rfl
theorem pl125:plainFn Tryz.prog 125=true:=by kernel_rfl
theorem pl126:plainFn Tryz.prog 126=true:=by kernel_rfl
theorem pl127:plainFn Tryz.prog 127=true:=by kernel_rfl
theorem pl128:plainFn Tryz.prog 128=true:=by kernel_rfl
theorem pl129:plainFn Tryz.prog 129=true:=by kernel_rfl
theorem pl13:plainFn Tryz.prog 13=true:=by kernel_rfl
theorem pl153:plainFn Tryz.prog 153=true:=by kernel_rfl
theorem pl154:plainFn Tryz.prog 154=true:=by kernel_rfl
theorem pl155:plainFn Tryz.prog 155=true:=by kernel_rfl
theorem pl156:plainFn Tryz.prog 156=true:=by kernel_rfl
theorem pl157:plainFn Tryz.prog 157=true:=by kernel_rfl
theorem pl158:plainFn Tryz.prog 158=true:=by kernel_rfl
theorem pl159:plainFn Tryz.prog 159=true:=by kernel_rfl
theorem pl160:plainFn Tryz.prog 160=true:=by kernel_rfl
theorem pl17:plainFn Tryz.prog 17=true:=by kernel_rfl
theorem pl177:plainFn Tryz.prog 177=true:=by kernel_rfl
theorem pl178:plainFn Tryz.prog 178=true:=by kernel_rfl
theorem pl179:plainFn Tryz.prog 179=true:=by kernel_rfl
theorem pl180:plainFn Tryz.prog 180=true:=by kernel_rfl
theorem pl181:plainFn Tryz.prog 181=true:=by kernel_rfl
theorem pl182:plainFn Tryz.prog 182=true:=by kernel_rfl
theorem pl183:plainFn Tryz.prog 183=true:=by kernel_rfl
theorem pl184:plainFn Tryz.prog 184=true:=by kernel_rfl
theorem pl185:plainFn Tryz.prog 185=true:=by kernel_rfl
theorem pl186:plainFn Tryz.prog 186=true:=by kernel_rfl
theorem pl187:plainFn Tryz.prog 187=true:=by kernel_rfl
theorem pl188:plainFn Tryz.prog 188=true:=by kernel_rfl
theorem pl189:plainFn Tryz.prog 189=true:=by kernel_rfl
theorem pl190:plainFn Tryz.prog 190=true:=by kernel_rfl
theorem pl191:plainFn Tryz.prog 191=true:=by kernel_rfl
theorem pl192:plainFn Tryz.prog 192=true:=by kernel_rfl
theorem pl193:plainFn Tryz.prog 193=true:=by kernel_rfl
theorem pl194:plainFn Tryz.prog 194=true:=by kernel_rfl
theorem pl195:plainFn Tryz.prog 195=true:=by kernel_rfl
theorem pl196:plainFn Tryz.prog 196=true:=by kernel_rfl
theorem pl197:plainFn Tryz.prog 197=true:=by kernel_rfl
theorem pl209:plainFn Tryz.prog 209=true:=by kernel_rfl
theorem pl210:plainFn Tryz.prog 210=true:=by kernel_rfl
theorem pl218:plainFn Tryz.prog 218=true:=by kernel_rfl
theorem pl219:plainFn Tryz.prog 219=true:=by kernel_rfl
theorem pl22:plainFn Tryz.prog 22=true:=by kernel_rfl
theorem pl220:plainFn Tryz.prog 220=true:=by kernel_rfl
theorem pl221:plainFn Tryz.prog 221=true:=by kernel_rfl
theorem pl222:plainFn Tryz.prog 222=true:=by kernel_rfl
theorem pl223:plainFn Tryz.prog 223=true:=by kernel_rfl
theorem pl224:plainFn Tryz.prog 224=true:=by kernel_rfl
theorem pl225:plainFn Tryz.prog 225=true:=by kernel_rfl
theorem pl226:plainFn Tryz.prog 226=true:=by kernel_rfl
theorem pl227:plainFn Tryz.prog 227=true:=by kernel_rfl
theorem pl23:plainFn Tryz.prog 23=true:=by kernel_rfl
theorem pl232:plainFn Tryz.prog 232=true:=by kernel_rfl
theorem pl233:plainFn Tryz.prog 233=true:=by kernel_rfl
theorem pl24:plainFn Tryz.prog 24=true:=by kernel_rfl
theorem pl25:plainFn Tryz.prog 25=true:=by kernel_rfl
theorem pl26:plainFn Tryz.prog 26=true:=by kernel_rfl
theorem pl27:plainFn Tryz.prog 27=true:=by kernel_rfl
theorem pl28:plainFn Tryz.prog 28=true:=by kernel_rfl
theorem pl29:plainFn Tryz.prog 29=true:=by kernel_rfl
theorem pl36:plainFn Tryz.prog 36=true:=by kernel_rfl
theorem pl37:plainFn Tryz.prog 37=true:=by kernel_rfl
theorem pl38:plainFn Tryz.prog 38=true:=by kernel_rfl
theorem pl39:plainFn Tryz.prog 39=true:=by kernel_rfl
theorem pl47:plainFn Tryz.prog 47=true:=by kernel_rfl
theorem pl48:plainFn Tryz.prog 48=true:=by kernel_rfl
theorem pl49:plainFn Tryz.prog 49=true:=by kernel_rfl
theorem pl50:plainFn Tryz.prog 50=true:=by kernel_rfl
theorem pl51:plainFn Tryz.prog 51=true:=by kernel_rfl
theorem pl52:plainFn Tryz.prog 52=true:=by kernel_rfl
theorem pl53:plainFn Tryz.prog 53=true:=by kernel_rfl
theorem pl54:plainFn Tryz.prog 54=true:=by kernel_rfl
theorem pl55:plainFn Tryz.prog 55=true:=by kernel_rfl
theorem pl56:plainFn Tryz.prog 56=true:=by kernel_rfl
theorem pl57:plainFn Tryz.prog 57=true:=by kernel_rfl
theorem pl58:plainFn Tryz.prog 58=true:=by kernel_rfl
theorem pl59:plainFn Tryz.prog 59=true:=by kernel_rfl
theorem pl6:plainFn Tryz.prog 6=true:=by kernel_rfl
theorem pl60:plainFn Tryz.prog 60=true:=by kernel_rfl
theorem pl61:plainFn Tryz.prog 61=true:=by kernel_rfl
theorem pl62:plainFn Tryz.prog 62=true:=by kernel_rfl
theorem pl63:plainFn Tryz.prog 63=true:=by kernel_rfl
theorem pl64:plainFn Tryz.prog 64=true:=by kernel_rfl
theorem pl65:plainFn Tryz.prog 65=true:=by kernel_rfl
theorem pl66:plainFn Tryz.prog 66=true:=by kernel_rfl
theorem pl67:plainFn Tryz.prog 67=true:=by kernel_rfl
theorem pl7:plainFn Tryz.prog 7=true:=by kernel_rfl
theorem pl8:plainFn Tryz.prog 8=true:=by kernel_rfl
theorem pl82:plainFn Tryz.prog 82=true:=by kernel_rfl
theorem pl83:plainFn Tryz.prog 83=true:=by kernel_rfl
theorem pl84:plainFn Tryz.prog 84=true:=by kernel_rfl
theorem pl85:plainFn Tryz.prog 85=true:=by kernel_rfl
theorem pl86:plainFn Tryz.prog 86=true:=by kernel_rfl
theorem pl87:plainFn Tryz.prog 87=true:=by kernel_rfl
theorem pl88:plainFn Tryz.prog 88=true:=by kernel_rfl
theorem pl89:plainFn Tryz.prog 89=true:=by kernel_rfl
theorem pl9:plainFn Tryz.prog 9=true:=by kernel_rfl
theorem pl90:plainFn Tryz.prog 90=true:=by kernel_rfl
theorem pl91:plainFn Tryz.prog 91=true:=by kernel_rfl
theorem pl92:plainFn Tryz.prog 92=true:=by kernel_rfl
theorem pl93:plainFn Tryz.prog 93=true:=by kernel_rfl
theorem pl94:plainFn Tryz.prog 94=true:=by kernel_rfl
theorem pl95:plainFn Tryz.prog 95=true:=by kernel_rfl
theorem sT102:SlT Tryz.prog 102 DMsg:=SlT.of (b:=16) (by kernel_rfl) rfl
theorem sT190:SlT Tryz.prog 190 Bool:=SlT.of (b:=1) (by kernel_rfl) rfl
theorem sT25:SlT Tryz.prog 25 DPart:=SlT.of (b:=224) (by kernel_rfl) rfl
theorem sT29:SlT Tryz.prog 29 DBoot:=SlT.of (b:=72) (by kernel_rfl) rfl
theorem sT52:SlT Tryz.prog 52 Int:=SlT.of (b:=8) (by kernel_rfl) rfl
theorem sT59:SlT Tryz.prog 59 DRes:=SlT.of (b:=40) (by kernel_rfl) rfl
theorem sT60:SlT Tryz.prog 60 DObj:=SlT.of (b:=152) (by kernel_rfl) rfl
theorem sT65:SlT Tryz.prog 65 DTap:=SlT.of (b:=48) (by kernel_rfl) rfl
theorem sT76:SlT Tryz.prog 76 DTree:=SlT.of (b:=24) (by kernel_rfl) rfl
theorem sTP60:SlT Tryz.prog 60 DObjP:=SlT.of (b:=152) (by kernel_rfl) rfl
theorem sTV76:SlT Tryz.prog 76 DTreeV:=SlT.of (b:=24) (by kernel_rfl) rfl
theorem sz104:szV Tryz.prog 104=some 13:=by kernel_rfl
theorem sz138:szV Tryz.prog 138=some 5:=by kernel_rfl
theorem sz170:szV Tryz.prog 170=some 2:=by kernel_rfl
theorem sz3:szV Tryz.prog 3=some 1:=by kernel_rfl
theorem sz37:szV Tryz.prog 37=some 6:=by kernel_rfl
theorem sz4:szV Tryz.prog 4=some 1:=by kernel_rfl
theorem sz5:szV Tryz.prog 5=some 1:=by kernel_rfl
theorem sz58:szV Tryz.prog 58=some 5:=by kernel_rfl
theorem sz67:szV Tryz.prog 67=some 16:=by kernel_rfl
theorem sz78:szV Tryz.prog 78=some 1:=by kernel_rfl
theorem sz82:szV Tryz.prog 82=some 6:=by kernel_rfl
theorem zv104:zeroV Tryz.prog 104=some (.agg #[.int .i64 0,.int .i64 0,.int .i64 0,.int .i64 0,.int .i64 0,.int .i64 0,.int .i64 0,.int .i64 0,.int .i64 0,.bool false,.slice none 0 0,.slice none 0 0,.slice none 0 0]):=by kernel_rfl
theorem zv138:zeroV Tryz.prog 138=some (.agg #[.bool false,.int .i64 0,.int .i64 0,.int .i64 0,.int .i64 0]):=by kernel_rfl
theorem zv170:zeroV Tryz.prog 170=some (.agg #[.int .i64 0,.int .i64 0]):=by kernel_rfl
theorem zv27:zeroV Tryz.prog 27=some (.agg #[.int .i64 0,.slice none 0 0]):=by kernel_rfl
theorem zv32:zeroV Tryz.prog 32=some (.agg #[.int .i64 0,.int .i64 0]):=by kernel_rfl
theorem zv54:zeroV Tryz.prog 54=some (.agg #[.slice none 0 0]):=by kernel_rfl
theorem zv56:zeroV Tryz.prog 56=some (.agg #[.int .i64 0,.int .i64 0,.int .i64 0]):=by kernel_rfl
theorem zv58:zeroV Tryz.prog 58=some (.agg #[.slice none 0 0,.slice none 0 0,.int .i64 0,.int .i64 0,.int .i64 0]):=by kernel_rfl
theorem zv62:zeroV Tryz.prog 62=some (.agg #[.int .i64 0,.int .i64 0,.int .i64 0,.slice none 0 0]):=by kernel_rfl
theorem zv64:zeroV Tryz.prog 64=some (.agg #[.slice none 0 0,.int .i64 0,.int .i64 0,.int .i64 0,.slice none 0 0]):=by kernel_rfl
theorem zv67:zeroV Tryz.prog 67=some (.agg #[.slice none 0 0,.slice none 0 0,.slice none 0 0,.slice none 0 0,.int .i64 0,.int .i64 0,.int .i64 0,.slice none 0 0,.slice none 0 0,.int .i64 0,.int .i64 0,.int .i64 0,.int .i64 0,.int .i64 0,.int .i64 0,.int .i64 0]):=by kernel_rfl
theorem zv78:zeroV Tryz.prog 78=some (.agg #[.slice none 0 0]):=by kernel_rfl
theorem zv82:zeroV Tryz.prog 82=some (.agg #[.int .i64 0,.int .i64 0,.int .i64 0,.int .i64 0,.int .i64 0,.int .i64 0]):=by kernel_rfl
instance:AgC Tryz.prog 102 none:=⟨ag102⟩
instance:AgC Tryz.prog 104 (some 13):=⟨ag104⟩
instance:AgC Tryz.prog 138 (some 5):=⟨ag138⟩
instance:AgC Tryz.prog 170 (some 2):=⟨ag170⟩
instance:AgC Tryz.prog 25 none:=⟨ag25⟩
instance:AgC Tryz.prog 27 (some 2):=⟨ag27⟩
instance:AgC Tryz.prog 3 none:=⟨ag3⟩
instance:AgC Tryz.prog 32 (some 2):=⟨ag32⟩
instance:AgC Tryz.prog 37 (some 6):=⟨ag37⟩
instance:AgC Tryz.prog 4 none:=⟨ag4⟩
instance:AgC Tryz.prog 5 none:=⟨ag5⟩
instance:AgC Tryz.prog 52 none:=⟨ag52⟩
instance:AgC Tryz.prog 54 (some 1):=⟨ag54⟩
instance:AgC Tryz.prog 56 (some 3):=⟨ag56⟩
instance:AgC Tryz.prog 58 (some 5):=⟨ag58⟩
instance:AgC Tryz.prog 59 none:=⟨ag59⟩
instance:AgC Tryz.prog 60 none:=⟨ag60⟩
instance:AgC Tryz.prog 62 (some 4):=⟨ag62⟩
instance:AgC Tryz.prog 64 (some 5):=⟨ag64⟩
instance:AgC Tryz.prog 65 none:=⟨ag65⟩
instance:AgC Tryz.prog 67 (some 16):=⟨ag67⟩
instance:AgC Tryz.prog 78 (some 1):=⟨ag78⟩
instance:AgC Tryz.prog 82 (some 6):=⟨ag82⟩
instance:FoC Tryz.prog 104 0 0 none:=⟨fo104_0⟩
instance:FoC Tryz.prog 104 1 1 none:=⟨fo104_1⟩
instance:FoC Tryz.prog 104 10 10 none:=⟨fo104_10⟩
instance:FoC Tryz.prog 104 11 11 none:=⟨fo104_11⟩
instance:FoC Tryz.prog 104 12 12 none:=⟨fo104_12⟩
instance:FoC Tryz.prog 104 2 2 none:=⟨fo104_2⟩
instance:FoC Tryz.prog 104 3 3 none:=⟨fo104_3⟩
instance:FoC Tryz.prog 104 4 4 none:=⟨fo104_4⟩
instance:FoC Tryz.prog 104 5 5 none:=⟨fo104_5⟩
instance:FoC Tryz.prog 104 6 6 none:=⟨fo104_6⟩
instance:FoC Tryz.prog 104 7 7 none:=⟨fo104_7⟩
instance:FoC Tryz.prog 104 8 8 none:=⟨fo104_8⟩
instance:FoC Tryz.prog 104 9 9 none:=⟨fo104_9⟩
instance:FoC Tryz.prog 138 0 0 none:=⟨fo138_0⟩
instance:FoC Tryz.prog 138 1 1 none:=⟨fo138_1⟩
instance:FoC Tryz.prog 138 2 2 (some 3):=⟨fo138_2⟩
instance:FoC Tryz.prog 165 0 0 (some 16):=⟨fo165_0⟩
instance:FoC Tryz.prog 165 1 16 none:=⟨fo165_1⟩
instance:FoC Tryz.prog 165 2 17 none:=⟨fo165_2⟩
instance:FoC Tryz.prog 165 3 18 none:=⟨fo165_3⟩
instance:FoC Tryz.prog 170 0 0 none:=⟨fo170_0⟩
instance:FoC Tryz.prog 170 1 1 none:=⟨fo170_1⟩
instance:FoC Tryz.prog 27 0 0 none:=⟨fo27_0⟩
instance:FoC Tryz.prog 27 1 1 none:=⟨fo27_1⟩
instance:FoC Tryz.prog 32 0 0 none:=⟨fo32_0⟩
instance:FoC Tryz.prog 32 1 1 none:=⟨fo32_1⟩
instance:FoC Tryz.prog 37 0 0 none:=⟨fo37_0⟩
instance:FoC Tryz.prog 37 1 1 none:=⟨fo37_1⟩
instance:FoC Tryz.prog 37 2 2 none:=⟨fo37_2⟩
instance:FoC Tryz.prog 37 3 3 none:=⟨fo37_3⟩
instance:FoC Tryz.prog 37 4 4 none:=⟨fo37_4⟩
instance:FoC Tryz.prog 37 5 5 none:=⟨fo37_5⟩
instance:FoC Tryz.prog 54 0 0 none:=⟨fo54_0⟩
instance:FoC Tryz.prog 56 0 0 none:=⟨fo56_0⟩
instance:FoC Tryz.prog 56 1 1 none:=⟨fo56_1⟩
instance:FoC Tryz.prog 56 2 2 none:=⟨fo56_2⟩
instance:FoC Tryz.prog 58 0 0 (some 1):=⟨fo58_0⟩
instance:FoC Tryz.prog 58 1 1 none:=⟨fo58_1⟩
instance:FoC Tryz.prog 58 2 2 (some 3):=⟨fo58_2⟩
instance:FoC Tryz.prog 62 0 0 none:=⟨fo62_0⟩
instance:FoC Tryz.prog 62 1 1 none:=⟨fo62_1⟩
instance:FoC Tryz.prog 62 2 2 none:=⟨fo62_2⟩
instance:FoC Tryz.prog 62 3 3 none:=⟨fo62_3⟩
instance:FoC Tryz.prog 64 0 0 none:=⟨fo64_0⟩
instance:FoC Tryz.prog 64 1 1 (some 4):=⟨fo64_1⟩
instance:FoC Tryz.prog 67 0 0 (some 1):=⟨fo67_0⟩
instance:FoC Tryz.prog 67 1 1 none:=⟨fo67_1⟩
instance:FoC Tryz.prog 67 2 2 none:=⟨fo67_2⟩
instance:FoC Tryz.prog 67 3 3 (some 5):=⟨fo67_3⟩
instance:FoC Tryz.prog 67 4 8 none:=⟨fo67_4⟩
instance:FoC Tryz.prog 67 5 9 none:=⟨fo67_5⟩
instance:FoC Tryz.prog 67 6 10 none:=⟨fo67_6⟩
instance:FoC Tryz.prog 67 7 11 (some 3):=⟨fo67_7⟩
instance:FoC Tryz.prog 67 8 14 none:=⟨fo67_8⟩
instance:FoC Tryz.prog 67 9 15 none:=⟨fo67_9⟩
instance:FoC Tryz.prog 78 0 0 none:=⟨fo78_0⟩
instance:FoC Tryz.prog 82 0 0 none:=⟨fo82_0⟩
instance:FoC Tryz.prog 82 1 1 none:=⟨fo82_1⟩
instance:FoC Tryz.prog 82 2 2 none:=⟨fo82_2⟩
instance:FoC Tryz.prog 82 3 3 none:=⟨fo82_3⟩
instance:FoC Tryz.prog 82 4 4 none:=⟨fo82_4⟩
instance:FoC Tryz.prog 82 5 5 none:=⟨fo82_5⟩
instance:PlC Tryz.prog 10:=⟨pl10⟩
instance:PlC Tryz.prog 11:=⟨pl11⟩
instance:PlC Tryz.prog 111:=⟨pl111⟩
instance:PlC Tryz.prog 112:=⟨pl112⟩
instance:PlC Tryz.prog 113:=⟨pl113⟩
instance:PlC Tryz.prog 114:=⟨pl114⟩
instance:PlC Tryz.prog 115:=⟨pl115⟩
instance:PlC Tryz.prog 116:=⟨pl116⟩
instance:PlC Tryz.prog 117:=⟨pl117⟩
instance:PlC Tryz.prog 118:=⟨pl118⟩
instance:PlC Tryz.prog 119:=⟨pl119⟩
instance:PlC Tryz.prog 12:=⟨pl12⟩
instance:PlC Tryz.prog 120:=⟨pl120⟩
instance:PlC Tryz.prog 121:=⟨pl121⟩
instance:PlC Tryz.prog 122:=⟨pl122⟩
instance:PlC Tryz.prog 123:=⟨pl123⟩
instance:PlC Tryz.prog 124:=⟨pl124⟩
instance:PlC Tryz.prog 125:=⟨pl125⟩
instance:PlC Tryz.prog 126:=⟨pl126⟩
instance:PlC Tryz.prog 127:=⟨pl127⟩
instance:PlC Tryz.prog 128:=⟨pl128⟩
instance:PlC Tryz.prog 129:=⟨pl129⟩
instance:PlC Tryz.prog 13:=⟨pl13⟩
instance:PlC Tryz.prog 153:=⟨pl153⟩
instance:PlC Tryz.prog 154:=⟨pl154⟩
instance:PlC Tryz.prog 155:=⟨pl155⟩
instance:PlC Tryz.prog 156:=⟨pl156⟩
instance:PlC Tryz.prog 157:=⟨pl157⟩
instance:PlC Tryz.prog 158:=⟨pl158⟩
instance:PlC Tryz.prog 159:=⟨pl159⟩
instance:PlC Tryz.prog 160:=⟨pl160⟩
instance:PlC Tryz.prog 17:=⟨pl17⟩
instance:PlC Tryz.prog 177:=⟨pl177⟩
instance:PlC Tryz.prog 178:=⟨pl178⟩
instance:PlC Tryz.prog 179:=⟨pl179⟩
instance:PlC Tryz.prog 180:=⟨pl180⟩
instance:PlC Tryz.prog 181:=⟨pl181⟩
instance:PlC Tryz.prog 182:=⟨pl182⟩
instance:PlC Tryz.prog 183:=⟨pl183⟩
instance:PlC Tryz.prog 184:=⟨pl184⟩
instance:PlC Tryz.prog 185:=⟨pl185⟩
instance:PlC Tryz.prog 186:=⟨pl186⟩
instance:PlC Tryz.prog 187:=⟨pl187⟩
instance:PlC Tryz.prog 188:=⟨pl188⟩
instance:PlC Tryz.prog 189:=⟨pl189⟩
instance:PlC Tryz.prog 190:=⟨pl190⟩
instance:PlC Tryz.prog 191:=⟨pl191⟩
instance:PlC Tryz.prog 192:=⟨pl192⟩
instance:PlC Tryz.prog 193:=⟨pl193⟩
instance:PlC Tryz.prog 194:=⟨pl194⟩
instance:PlC Tryz.prog 195:=⟨pl195⟩
instance:PlC Tryz.prog 196:=⟨pl196⟩
instance:PlC Tryz.prog 197:=⟨pl197⟩
instance:PlC Tryz.prog 209:=⟨pl209⟩
instance:PlC Tryz.prog 210:=⟨pl210⟩
instance:PlC Tryz.prog 218:=⟨pl218⟩
instance:PlC Tryz.prog 219:=⟨pl219⟩
instance:PlC Tryz.prog 22:=⟨pl22⟩
instance:PlC Tryz.prog 220:=⟨pl220⟩
instance:PlC Tryz.prog 221:=⟨pl221⟩
instance:PlC Tryz.prog 222:=⟨pl222⟩
instance:PlC Tryz.prog 223:=⟨pl223⟩
instance:PlC Tryz.prog 224:=⟨pl224⟩
instance:PlC Tryz.prog 225:=⟨pl225⟩
instance:PlC Tryz.prog 226:=⟨pl226⟩
instance:PlC Tryz.prog 227:=⟨pl227⟩
instance:PlC Tryz.prog 23:=⟨pl23⟩
instance:PlC Tryz.prog 232:=⟨pl232⟩
instance:PlC Tryz.prog 233:=⟨pl233⟩
instance:PlC Tryz.prog 24:=⟨pl24⟩
instance:PlC Tryz.prog 25:=⟨pl25⟩
instance:PlC Tryz.prog 26:=⟨pl26⟩
instance:PlC Tryz.prog 27:=⟨pl27⟩
instance:PlC Tryz.prog 28:=⟨pl28⟩
instance:PlC Tryz.prog 29:=⟨pl29⟩
instance:PlC Tryz.prog 36:=⟨pl36⟩
instance:PlC Tryz.prog 37:=⟨pl37⟩
instance:PlC Tryz.prog 38:=⟨pl38⟩
instance:PlC Tryz.prog 39:=⟨pl39⟩
instance:PlC Tryz.prog 47:=⟨pl47⟩
instance:PlC Tryz.prog 48:=⟨pl48⟩
instance:PlC Tryz.prog 49:=⟨pl49⟩
instance:PlC Tryz.prog 50:=⟨pl50⟩
instance:PlC Tryz.prog 51:=⟨pl51⟩
instance:PlC Tryz.prog 52:=⟨pl52⟩
instance:PlC Tryz.prog 53:=⟨pl53⟩
instance:PlC Tryz.prog 54:=⟨pl54⟩
instance:PlC Tryz.prog 55:=⟨pl55⟩
instance:PlC Tryz.prog 56:=⟨pl56⟩
instance:PlC Tryz.prog 57:=⟨pl57⟩
instance:PlC Tryz.prog 58:=⟨pl58⟩
instance:PlC Tryz.prog 59:=⟨pl59⟩
instance:PlC Tryz.prog 6:=⟨pl6⟩
instance:PlC Tryz.prog 60:=⟨pl60⟩
instance:PlC Tryz.prog 61:=⟨pl61⟩
instance:PlC Tryz.prog 62:=⟨pl62⟩
instance:PlC Tryz.prog 63:=⟨pl63⟩
instance:PlC Tryz.prog 64:=⟨pl64⟩
instance:PlC Tryz.prog 65:=⟨pl65⟩
instance:PlC Tryz.prog 66:=⟨pl66⟩
instance:PlC Tryz.prog 67:=⟨pl67⟩
instance:PlC Tryz.prog 7:=⟨pl7⟩
instance:PlC Tryz.prog 8:=⟨pl8⟩
instance:PlC Tryz.prog 82:=⟨pl82⟩
instance:PlC Tryz.prog 83:=⟨pl83⟩
instance:PlC Tryz.prog 84:=⟨pl84⟩
instance:PlC Tryz.prog 85:=⟨pl85⟩
instance:PlC Tryz.prog 86:=⟨pl86⟩
instance:PlC Tryz.prog 87:=⟨pl87⟩
instance:PlC Tryz.prog 88:=⟨pl88⟩
instance:PlC Tryz.prog 89:=⟨pl89⟩
instance:PlC Tryz.prog 9:=⟨pl9⟩
instance:PlC Tryz.prog 90:=⟨pl90⟩
instance:PlC Tryz.prog 91:=⟨pl91⟩
instance:PlC Tryz.prog 92:=⟨pl92⟩
instance:PlC Tryz.prog 93:=⟨pl93⟩
instance:PlC Tryz.prog 94:=⟨pl94⟩
instance:PlC Tryz.prog 95:=⟨pl95⟩
instance:ZvC Tryz.prog 104:=⟨_,zv104⟩
instance:ZvC Tryz.prog 138:=⟨_,zv138⟩
instance:ZvC Tryz.prog 170:=⟨_,zv170⟩
instance:ZvC Tryz.prog 27:=⟨_,zv27⟩
instance:ZvC Tryz.prog 32:=⟨_,zv32⟩
instance:ZvC Tryz.prog 54:=⟨_,zv54⟩
instance:ZvC Tryz.prog 56:=⟨_,zv56⟩
instance:ZvC Tryz.prog 58:=⟨_,zv58⟩
instance:ZvC Tryz.prog 62:=⟨_,zv62⟩
instance:ZvC Tryz.prog 64:=⟨_,zv64⟩
instance:ZvC Tryz.prog 67:=⟨_,zv67⟩
instance:ZvC Tryz.prog 78:=⟨_,zv78⟩
instance:ZvC Tryz.prog 82:=⟨_,zv82⟩
instance:UnC Tryz.prog 22 (.slice 5):=⟨Tryz.underlying22⟩
instance:UnC Tryz.prog 25 (.slice 67):=⟨Tryz.underlying25⟩
instance:UnC Tryz.prog 29 (.slice 58):=⟨Tryz.underlying29⟩
instance:UnC Tryz.prog 38 (.slice 37):=⟨Tryz.underlying38⟩
instance:UnC Tryz.prog 41 (.slice 127):=⟨Tryz.underlying41⟩
instance:UnC Tryz.prog 52 (.slice 3):=⟨Tryz.underlying52⟩
instance:UnC Tryz.prog 59 (.slice 138):=⟨Tryz.underlying59⟩
instance:UnC Tryz.prog 60 (.slice 104):=⟨Tryz.underlying60⟩
instance:UnC Tryz.prog 65 (.slice 82):=⟨Tryz.underlying65⟩
instance:UnC Tryz.prog 76 (.slice 78):=⟨Tryz.underlying76⟩
instance:UnC Tryz.prog 102 (.slice 170):=⟨Tryz.underlying102⟩
instance:UnC Tryz.prog 119 (.slice 209):=⟨Tryz.underlying119⟩
instance:UnC Tryz.prog 120 (.slice 230):=⟨Tryz.underlying120⟩
instance:UnC Tryz.prog 124 (.slice 213):=⟨Tryz.underlying124⟩
instance:UnC Tryz.prog 190 (.slice 4):=⟨Tryz.underlying190⟩
instance:UnC Tryz.prog 228 (.slice 236):=⟨Tryz.underlying228⟩
end Go.Kx
