/- Closed facts of the program's types and functions. Printed by drive.py. -/
import Derived.Test.YtgekpkkhelmgiaaGreatProg
import Derived.Test.YtgekpkkhelmgiaaGreatGo
import Derived.Test.YtgekpkkhelmgiaaGreatDat
import Derived.Test.YtgekpkkhelmgiaaGreatDel
namespace Go.Kx
open Go Go.RowKit Go.Proofs
set_option maxRecDepth 10000
set_option maxHeartbeats 8000000
set_option linter.unusedVariables false
set_option linter.unusedSimpArgs false
theorem ag105:aggV Tryz.prog 105=some (some 6):=by kernel_rfl
theorem ag108:aggV Tryz.prog 108=some none:=by kernel_rfl
theorem ag110:aggV Tryz.prog 110=some (some 13):=by kernel_rfl
theorem ag127:aggV Tryz.prog 127=some (some 2):=by kernel_rfl
theorem ag130:aggV Tryz.prog 130=some (some 5):=by kernel_rfl
theorem ag134:aggV Tryz.prog 134=some (some 5):=by kernel_rfl
theorem ag138:aggV Tryz.prog 138=some (some 6):=by kernel_rfl
theorem ag150:aggV Tryz.prog 150=some none:=by kernel_rfl
theorem ag152:aggV Tryz.prog 152=some (some 13):=by kernel_rfl
theorem ag178:aggV Tryz.prog 178=some (some 2):=by kernel_rfl
theorem ag22:aggV Tryz.prog 22=some none:=by kernel_rfl
theorem ag24:aggV Tryz.prog 24=some (some 1):=by kernel_rfl
theorem ag25:aggV Tryz.prog 25=some none:=by kernel_rfl
theorem ag26:aggV Tryz.prog 26=some none:=by kernel_rfl
theorem ag28:aggV Tryz.prog 28=some (some 4):=by kernel_rfl
theorem ag3:aggV Tryz.prog 3=some none:=by kernel_rfl
theorem ag30:aggV Tryz.prog 30=some (some 5):=by kernel_rfl
theorem ag31:aggV Tryz.prog 31=some none:=by kernel_rfl
theorem ag33:aggV Tryz.prog 33=some (some 3):=by kernel_rfl
theorem ag35:aggV Tryz.prog 35=some (some 16):=by kernel_rfl
theorem ag37:aggV Tryz.prog 37=some (some 6):=by kernel_rfl
theorem ag39:aggV Tryz.prog 39=some (some 1):=by kernel_rfl
theorem ag4:aggV Tryz.prog 4=some none:=by kernel_rfl
theorem ag40:aggV Tryz.prog 40=some none:=by kernel_rfl
theorem ag41:aggV Tryz.prog 41=some none:=by kernel_rfl
theorem ag42:aggV Tryz.prog 42=some (some 4):=by kernel_rfl
theorem ag44:aggV Tryz.prog 44=some (some 5):=by kernel_rfl
theorem ag45:aggV Tryz.prog 45=some none:=by kernel_rfl
theorem ag46:aggV Tryz.prog 46=some (some 3):=by kernel_rfl
theorem ag48:aggV Tryz.prog 48=some (some 16):=by kernel_rfl
theorem ag50:aggV Tryz.prog 50=some (some 2):=by kernel_rfl
theorem ag54:aggV Tryz.prog 54=some (some 6):=by kernel_rfl
theorem eg127:Program.eqGuardType Tryz.prog Tryz.prog.depth 127=false:=by kernel_rfl
theorem eg130:Program.eqGuardType Tryz.prog Tryz.prog.depth 130=false:=by kernel_rfl
theorem eq127:∀ (a b:DMsg) (w:World),(Op.equalIn 10000 127 (.agg #[.int .i64 a.src,.int .i64 a.n]) (.agg #[.int .i64 b.src,.int .i64 b.n])).run Tryz.prog w=.ok (decide (a=b)) w:=fun a b w=>EqT.top (n:=1) (EqT.agg (n:=0) Tryz.underlying127 (by kernel_rfl) (EqF.one rfl ag3 rfl rfl (EqT.int Tryz.underlying3) (EqF.one rfl ag3 rfl rfl (EqT.int Tryz.underlying3) EqF.nil))) (by decide) (by
  obtain ⟨x0,x1⟩:=a
  obtain ⟨y0,y1⟩:=b
  simp [DMsg.mk.injEq,Bool.beq_eq_decide_eq,Bool.decide_and]) w
theorem eq130:∀ (a b:DRes) (w:World),(Op.equalIn 10000 130 (.agg #[.bool a.live,.int .i64 a.parent,.int .i64 a.bal.pages,.int .i64 a.bal.rent,.int .i64 a.bal.cpu]) (.agg #[.bool b.live,.int .i64 b.parent,.int .i64 b.bal.pages,.int .i64 b.bal.rent,.int .i64 b.bal.cpu])).run Tryz.prog w=.ok (decide (a=b)) w:=fun a b w=>EqT.top (n:=2) (EqT.agg (n:=1) Tryz.underlying130 (by kernel_rfl) (EqF.one rfl ag4 rfl rfl (EqT.bool Tryz.underlying4) (EqF.one rfl ag3 rfl rfl (EqT.int Tryz.underlying3) (EqF.more rfl ag46 (EqT.agg (n:=0) Tryz.underlying46 (by kernel_rfl) (EqF.one rfl ag3 rfl rfl (EqT.int Tryz.underlying3) (EqF.one rfl ag3 rfl rfl (EqT.int Tryz.underlying3) (EqF.one rfl ag3 rfl rfl (EqT.int Tryz.underlying3) EqF.nil)))) EqF.nil)))) (by decide) (by
  obtain ⟨x0,x1,⟨x2,x3,x4⟩⟩:=a
  obtain ⟨y0,y1,⟨y2,y3,y4⟩⟩:=b
  simp [DAmt.mk.injEq,DRes.mk.injEq,Bool.beq_eq_decide_eq,Bool.decide_and]) w
theorem fo105_0:fo Tryz.prog 105 0=some (0,none):=by kernel_rfl
theorem fo105_1:fo Tryz.prog 105 1=some (1,none):=by kernel_rfl
theorem fo105_2:fo Tryz.prog 105 2=some (2,none):=by kernel_rfl
theorem fo105_3:fo Tryz.prog 105 3=some (3,none):=by kernel_rfl
theorem fo105_4:fo Tryz.prog 105 4=some (4,none):=by kernel_rfl
theorem fo105_5:fo Tryz.prog 105 5=some (5,none):=by kernel_rfl
theorem fo110_0:fo Tryz.prog 110 0=some (0,none):=by kernel_rfl
theorem fo110_1:fo Tryz.prog 110 1=some (1,none):=by kernel_rfl
theorem fo110_10:fo Tryz.prog 110 10=some (10,none):=by kernel_rfl
theorem fo110_11:fo Tryz.prog 110 11=some (11,none):=by kernel_rfl
theorem fo110_12:fo Tryz.prog 110 12=some (12,none):=by kernel_rfl
theorem fo110_2:fo Tryz.prog 110 2=some (2,none):=by kernel_rfl
theorem fo110_3:fo Tryz.prog 110 3=some (3,none):=by kernel_rfl
theorem fo110_4:fo Tryz.prog 110 4=some (4,none):=by kernel_rfl
theorem fo110_5:fo Tryz.prog 110 5=some (5,none):=by kernel_rfl
theorem fo110_6:fo Tryz.prog 110 6=some (6,none):=by kernel_rfl
theorem fo110_7:fo Tryz.prog 110 7=some (7,none):=by kernel_rfl
theorem fo110_8:fo Tryz.prog 110 8=some (8,none):=by kernel_rfl
theorem fo110_9:fo Tryz.prog 110 9=some (9,none):=by kernel_rfl
theorem fo127_0:fo Tryz.prog 127 0=some (0,none):=by kernel_rfl
theorem fo127_1:fo Tryz.prog 127 1=some (1,none):=by kernel_rfl
theorem fo130_0:fo Tryz.prog 130 0=some (0,none):=by kernel_rfl
theorem fo130_1:fo Tryz.prog 130 1=some (1,none):=by kernel_rfl
theorem fo130_2:fo Tryz.prog 130 2=some (2,some 3):=by kernel_rfl
theorem fo134_0:fo Tryz.prog 134 0=some (0,none):=by kernel_rfl
theorem fo134_1:fo Tryz.prog 134 1=some (1,none):=by kernel_rfl
theorem fo134_2:fo Tryz.prog 134 2=some (2,some 3):=by kernel_rfl
theorem fo138_0:fo Tryz.prog 138 0=some (0,none):=by kernel_rfl
theorem fo138_1:fo Tryz.prog 138 1=some (1,none):=by kernel_rfl
theorem fo138_2:fo Tryz.prog 138 2=some (2,none):=by kernel_rfl
theorem fo138_3:fo Tryz.prog 138 3=some (3,none):=by kernel_rfl
theorem fo138_4:fo Tryz.prog 138 4=some (4,none):=by kernel_rfl
theorem fo138_5:fo Tryz.prog 138 5=some (5,none):=by kernel_rfl
theorem fo152_0:fo Tryz.prog 152 0=some (0,none):=by kernel_rfl
theorem fo152_1:fo Tryz.prog 152 1=some (1,none):=by kernel_rfl
theorem fo152_10:fo Tryz.prog 152 10=some (10,none):=by kernel_rfl
theorem fo152_11:fo Tryz.prog 152 11=some (11,none):=by kernel_rfl
theorem fo152_12:fo Tryz.prog 152 12=some (12,none):=by kernel_rfl
theorem fo152_2:fo Tryz.prog 152 2=some (2,none):=by kernel_rfl
theorem fo152_3:fo Tryz.prog 152 3=some (3,none):=by kernel_rfl
theorem fo152_4:fo Tryz.prog 152 4=some (4,none):=by kernel_rfl
theorem fo152_5:fo Tryz.prog 152 5=some (5,none):=by kernel_rfl
theorem fo152_6:fo Tryz.prog 152 6=some (6,none):=by kernel_rfl
theorem fo152_7:fo Tryz.prog 152 7=some (7,none):=by kernel_rfl
theorem fo152_8:fo Tryz.prog 152 8=some (8,none):=by kernel_rfl
theorem fo152_9:fo Tryz.prog 152 9=some (9,none):=by kernel_rfl
theorem fo178_0:fo Tryz.prog 178 0=some (0,none):=by kernel_rfl
theorem fo178_1:fo Tryz.prog 178 1=some (1,none):=by kernel_rfl
theorem fo24_0:fo Tryz.prog 24 0=some (0,none):=by kernel_rfl
theorem fo28_0:fo Tryz.prog 28 0=some (0,none):=by kernel_rfl
theorem fo28_1:fo Tryz.prog 28 1=some (1,none):=by kernel_rfl
theorem fo28_2:fo Tryz.prog 28 2=some (2,none):=by kernel_rfl
theorem fo28_3:fo Tryz.prog 28 3=some (3,none):=by kernel_rfl
theorem fo30_0:fo Tryz.prog 30 0=some (0,none):=by kernel_rfl
theorem fo30_1:fo Tryz.prog 30 1=some (1,some 4):=by kernel_rfl
theorem fo33_0:fo Tryz.prog 33 0=some (0,none):=by kernel_rfl
theorem fo33_1:fo Tryz.prog 33 1=some (1,none):=by kernel_rfl
theorem fo33_2:fo Tryz.prog 33 2=some (2,none):=by kernel_rfl
theorem fo35_0:fo Tryz.prog 35 0=some (0,some 1):=by kernel_rfl
theorem fo35_1:fo Tryz.prog 35 1=some (1,none):=by kernel_rfl
theorem fo35_2:fo Tryz.prog 35 2=some (2,none):=by kernel_rfl
theorem fo35_3:fo Tryz.prog 35 3=some (3,some 5):=by kernel_rfl
theorem fo35_4:fo Tryz.prog 35 4=some (8,none):=by kernel_rfl
theorem fo35_5:fo Tryz.prog 35 5=some (9,none):=by kernel_rfl
theorem fo35_6:fo Tryz.prog 35 6=some (10,none):=by kernel_rfl
theorem fo35_7:fo Tryz.prog 35 7=some (11,some 3):=by kernel_rfl
theorem fo35_8:fo Tryz.prog 35 8=some (14,none):=by kernel_rfl
theorem fo35_9:fo Tryz.prog 35 9=some (15,none):=by kernel_rfl
theorem fo37_0:fo Tryz.prog 37 0=some (0,none):=by kernel_rfl
theorem fo37_1:fo Tryz.prog 37 1=some (1,none):=by kernel_rfl
theorem fo37_2:fo Tryz.prog 37 2=some (2,none):=by kernel_rfl
theorem fo37_3:fo Tryz.prog 37 3=some (3,none):=by kernel_rfl
theorem fo37_4:fo Tryz.prog 37 4=some (4,none):=by kernel_rfl
theorem fo37_5:fo Tryz.prog 37 5=some (5,none):=by kernel_rfl
theorem fo39_0:fo Tryz.prog 39 0=some (0,none):=by kernel_rfl
theorem fo42_0:fo Tryz.prog 42 0=some (0,none):=by kernel_rfl
theorem fo42_1:fo Tryz.prog 42 1=some (1,none):=by kernel_rfl
theorem fo42_2:fo Tryz.prog 42 2=some (2,none):=by kernel_rfl
theorem fo42_3:fo Tryz.prog 42 3=some (3,none):=by kernel_rfl
theorem fo44_0:fo Tryz.prog 44 0=some (0,none):=by kernel_rfl
theorem fo44_1:fo Tryz.prog 44 1=some (1,some 4):=by kernel_rfl
theorem fo46_0:fo Tryz.prog 46 0=some (0,none):=by kernel_rfl
theorem fo46_1:fo Tryz.prog 46 1=some (1,none):=by kernel_rfl
theorem fo46_2:fo Tryz.prog 46 2=some (2,none):=by kernel_rfl
theorem fo48_0:fo Tryz.prog 48 0=some (0,some 1):=by kernel_rfl
theorem fo48_1:fo Tryz.prog 48 1=some (1,none):=by kernel_rfl
theorem fo48_2:fo Tryz.prog 48 2=some (2,none):=by kernel_rfl
theorem fo48_3:fo Tryz.prog 48 3=some (3,some 5):=by kernel_rfl
theorem fo48_4:fo Tryz.prog 48 4=some (8,none):=by kernel_rfl
theorem fo48_5:fo Tryz.prog 48 5=some (9,none):=by kernel_rfl
theorem fo48_6:fo Tryz.prog 48 6=some (10,none):=by kernel_rfl
theorem fo48_7:fo Tryz.prog 48 7=some (11,some 3):=by kernel_rfl
theorem fo48_8:fo Tryz.prog 48 8=some (14,none):=by kernel_rfl
theorem fo48_9:fo Tryz.prog 48 9=some (15,none):=by kernel_rfl
theorem fo50_0:fo Tryz.prog 50 0=some (0,none):=by kernel_rfl
theorem fo50_1:fo Tryz.prog 50 1=some (1,none):=by kernel_rfl
theorem fo54_0:fo Tryz.prog 54 0=some (0,none):=by kernel_rfl
theorem fo54_1:fo Tryz.prog 54 1=some (1,none):=by kernel_rfl
theorem fo54_2:fo Tryz.prog 54 2=some (2,none):=by kernel_rfl
theorem fo54_3:fo Tryz.prog 54 3=some (3,none):=by kernel_rfl
theorem fo54_4:fo Tryz.prog 54 4=some (4,none):=by kernel_rfl
theorem fo54_5:fo Tryz.prog 54 5=some (5,none):=by kernel_rfl
theorem fo81_0:fo Tryz.prog 81 0=some (0,some 16):=by kernel_rfl
theorem fo81_1:fo Tryz.prog 81 1=some (16,none):=by kernel_rfl
theorem fo81_2:fo Tryz.prog 81 2=some (17,none):=by kernel_rfl
theorem fo81_3:fo Tryz.prog 81 3=some (18,none):=by kernel_rfl
theorem pl10:plainFn Tryz.prog 10=true:=by kernel_rfl
theorem pl100:plainFn Tryz.prog 100=true:=by kernel_rfl
theorem pl101:plainFn Tryz.prog 101=true:=by kernel_rfl
theorem pl102:plainFn Tryz.prog 102=true:=by kernel_rfl
theorem pl103:plainFn Tryz.prog 103=true:=by kernel_rfl
theorem pl104:plainFn Tryz.prog 104=true:=by kernel_rfl
theorem pl105:plainFn Tryz.prog 105=true:=by kernel_rfl
theorem pl106:plainFn Tryz.prog 106=true:=by kernel_rfl
theorem pl107:plainFn Tryz.prog 107=true:=by kernel_rfl
theorem pl108:plainFn Tryz.prog 108=true:=by kernel_rfl
theorem pl109:plainFn Tryz.prog 109=true:=by kernel_rfl
theorem pl11:plainFn Tryz.prog 11=true:=by kernel_rfl
theorem pl110:plainFn Tryz.prog 110=true:=by kernel_rfl
theorem pl111:plainFn Tryz.prog 111=true:=by kernel_rfl
theorem pl112:plainFn Tryz.prog 112=true:=by kernel_rfl
theorem pl113:plainFn Tryz.prog 113=true:=by kernel_rfl
theorem pl114:plainFn Tryz.prog 114=true:=by kernel_rfl
theorem pl115:plainFn Tryz.prog 115=true:=by kernel_rfl
theorem pl116:plainFn Tryz.prog 116=true:=by kernel_rfl
theorem pl117:plainFn Tryz.prog 117=true:=by kernel_rfl
theorem pl118:plainFn Tryz.prog 118=true:=by kernel_rfl
theorem pl119:plainFn Tryz.prog 119=true:=by kernel_rfl
theorem pl12:plainFn Tryz.prog 12=true:=by kernel_rfl
theorem pl120:plainFn Tryz.prog 120=true:=by kernel_rfl
theorem pl121:plainFn Tryz.prog 121=true:=by kernel_rfl
theorem pl122:plainFn Tryz.prog 122=true:=by kernel_rfl
theorem pl123:plainFn Tryz.prog 123=true:=by kernel_rfl
theorem pl124:plainFn Tryz.prog 124=true:=by kernel_rfl
theorem pl125:plainFn Tryz.prog 125=true:=by kernel_rfl
theorem pl126:plainFn Tryz.prog 126=true:=by kernel_rfl
theorem pl127:plainFn Tryz.prog 127=true:=by kernel_rfl
theorem pl128:plainFn Tryz.prog 128=true:=by kernel_rfl
theorem pl129:plainFn Tryz.prog 129=true:=by kernel_rfl
theorem pl13:plainFn Tryz.prog 13=true:=by kernel_rfl
theorem pl130:plainFn Tryz.prog 130=true:=by kernel_rfl
theorem pl131:plainFn Tryz.prog 131=true:=by kernel_rfl
theorem pl132:plainFn Tryz.prog 132=true:=by kernel_rfl
theorem pl133:plainFn Tryz.prog 133=true:=by kernel_rfl
theorem pl134:plainFn Tryz.prog 134=true:=by kernel_rfl
theorem pl135:plainFn Tryz.prog 135=true:=by kernel_rfl
theorem pl136:plainFn Tryz.prog 136=true:=by kernel_rfl
theorem pl137:plainFn Tryz.prog 137=true:=by kernel_rfl
theorem pl138:plainFn Tryz.prog 138=true:=by kernel_rfl
theorem pl139:plainFn Tryz.prog 139=true:=by kernel_rfl
theorem pl14:plainFn Tryz.prog 14=true:=by kernel_rfl
theorem pl140:plainFn Tryz.prog 140=true:=by kernel_rfl
theorem pl141:plainFn Tryz.prog 141=true:=by kernel_rfl
theorem pl142:plainFn Tryz.prog 142=true:=by kernel_rfl
theorem pl143:plainFn Tryz.prog 143=true:=by kernel_rfl
theorem pl144:plainFn Tryz.prog 144=true:=by kernel_rfl
theorem pl145:plainFn Tryz.prog 145=true:=by kernel_rfl
theorem pl146:plainFn Tryz.prog 146=true:=by kernel_rfl
theorem pl147:plainFn Tryz.prog 147=true:=by kernel_rfl
theorem pl148:plainFn Tryz.prog 148=true:=by kernel_rfl
theorem pl149:plainFn Tryz.prog 149=true:=by kernel_rfl
theorem pl15:plainFn Tryz.prog 15=true:=by kernel_rfl
theorem pl150:plainFn Tryz.prog 150=true:=by kernel_rfl
theorem pl151:plainFn Tryz.prog 151=true:=by kernel_rfl
theorem pl152:plainFn Tryz.prog 152=true:=by kernel_rfl
theorem pl153:plainFn Tryz.prog 153=true:=by kernel_rfl
theorem pl154:plainFn Tryz.prog 154=true:=by kernel_rfl
theorem pl155:plainFn Tryz.prog 155=true:=by kernel_rfl
theorem pl156:plainFn Tryz.prog 156=true:=by kernel_rfl
theorem pl157:plainFn Tryz.prog 157=true:=by kernel_rfl
theorem pl158:plainFn Tryz.prog 158=true:=by kernel_rfl
theorem pl159:plainFn Tryz.prog 159=true:=by kernel_rfl
theorem pl16:plainFn Tryz.prog 16=true:=by kernel_rfl
theorem pl160:plainFn Tryz.prog 160=true:=by kernel_rfl
theorem pl161:plainFn Tryz.prog 161=true:=by kernel_rfl
theorem pl162:plainFn Tryz.prog 162=true:=by kernel_rfl
theorem pl163:plainFn Tryz.prog 163=true:=by kernel_rfl
theorem pl164:plainFn Tryz.prog 164=true:=by kernel_rfl
theorem pl165:plainFn Tryz.prog 165=true:=by kernel_rfl
theorem pl166:plainFn Tryz.prog 166=true:=by kernel_rfl
theorem pl167:plainFn Tryz.prog 167=true:=by kernel_rfl
theorem pl168:plainFn Tryz.prog 168=true:=by kernel_rfl
theorem pl169:plainFn Tryz.prog 169=true:=by kernel_rfl
theorem pl17:plainFn Tryz.prog 17=true:=by kernel_rfl
theorem pl170:plainFn Tryz.prog 170=true:=by kernel_rfl
theorem pl171:plainFn Tryz.prog 171=true:=by kernel_rfl
theorem pl172:plainFn Tryz.prog 172=true:=by kernel_rfl
theorem pl173:plainFn Tryz.prog 173=true:=by kernel_rfl
theorem pl174:plainFn Tryz.prog 174=true:=by kernel_rfl
theorem pl175:plainFn Tryz.prog 175=true:=by kernel_rfl
theorem pl176:plainFn Tryz.prog 176=true:=by kernel_rfl
theorem pl177:plainFn Tryz.prog 177=true:=by kernel_rfl
theorem pl178:plainFn Tryz.prog 178=true:=by kernel_rfl
theorem pl179:plainFn Tryz.prog 179=true:=by kernel_rfl
theorem pl18:plainFn Tryz.prog 18=true:=by kernel_rfl
theorem pl180:plainFn Tryz.prog 180=true:=by kernel_rfl
theorem pl181:plainFn Tryz.prog 181=true:=by kernel_rfl
theorem pl182:plainFn Tryz.prog 182=true:=by kernel_rfl
theorem pl183:plainFn Tryz.prog 183=true:=by kernel_rfl
theorem pl184:plainFn Tryz.prog 184=true:=by kernel_rfl
theorem pl185:plainFn Tryz.prog 185=true:=by kernel_rfl
theorem pl186:plainFn Tryz.prog 186=true:=by kernel_rfl
theorem pl187:plainFn Tryz.prog 187=true:=by kernel_rfl
theorem pl188:plainFn Tryz.prog 188=true:=by kernel_rfl
theorem pl189:plainFn Tryz.prog 189=true:=by kernel_rfl
theorem pl19:plainFn Tryz.prog 19=true:=by kernel_rfl
theorem pl190:plainFn Tryz.prog 190=true:=by kernel_rfl
theorem pl191:plainFn Tryz.prog 191=true:=by kernel_rfl
theorem pl20:plainFn Tryz.prog 20=true:=by kernel_rfl
theorem pl21:plainFn Tryz.prog 21=true:=by kernel_rfl
theorem pl22:plainFn Tryz.prog 22=true:=by kernel_rfl
theorem pl23:plainFn Tryz.prog 23=true:=by kernel_rfl
theorem pl24:plainFn Tryz.prog 24=true:=by kernel_rfl
theorem pl25:plainFn Tryz.prog 25=true:=by kernel_rfl
theorem pl26:plainFn Tryz.prog 26=true:=by kernel_rfl
theorem pl27:plainFn Tryz.prog 27=true:=by kernel_rfl
theorem pl28:plainFn Tryz.prog 28=true:=by kernel_rfl
theorem pl29:plainFn Tryz.prog 29=true:=by kernel_rfl
theorem pl30:plainFn Tryz.prog 30=true:=by kernel_rfl
theorem pl31:plainFn Tryz.prog 31=true:=by kernel_rfl
theorem pl32:plainFn Tryz.prog 32=true:=by kernel_rfl
theorem pl33:plainFn Tryz.prog 33=true:=by kernel_rfl
theorem pl34:plainFn Tryz.prog 34=true:=by kernel_rfl
theorem pl35:plainFn Tryz.prog 35=true:=by kernel_rfl
theorem pl36:plainFn Tryz.prog 36=true:=by kernel_rfl
theorem pl37:plainFn Tryz.prog 37=true:=by kernel_rfl
theorem pl38:plainFn Tryz.prog 38=true:=by kernel_rfl
theorem pl39:plainFn Tryz.prog 39=true:=by kernel_rfl
theorem pl4:plainFn Tryz.prog 4=true:=by kernel_rfl
theorem pl40:plainFn Tryz.prog 40=true:=by kernel_rfl
theorem pl41:plainFn Tryz.prog 41=true:=by kernel_rfl
theorem pl42:plainFn Tryz.prog 42=true:=by kernel_rfl
theorem pl43:plainFn Tryz.prog 43=true:=by kernel_rfl
theorem pl44:plainFn Tryz.prog 44=true:=by kernel_rfl
theorem pl45:plainFn Tryz.prog 45=true:=by kernel_rfl
theorem pl46:plainFn Tryz.prog 46=true:=by kernel_rfl
theorem pl47:plainFn Tryz.prog 47=true:=by kernel_rfl
theorem pl48:plainFn Tryz.prog 48=true:=by kernel_rfl
theorem pl49:plainFn Tryz.prog 49=true:=by kernel_rfl
theorem pl5:plainFn Tryz.prog 5=true:=by kernel_rfl
theorem pl50:plainFn Tryz.prog 50=true:=by kernel_rfl
theorem pl51:plainFn Tryz.prog 51=true:=by kernel_rfl
theorem pl52:plainFn Tryz.prog 52=true:=by kernel_rfl
theorem pl53:plainFn Tryz.prog 53=true:=by kernel_rfl
theorem pl54:plainFn Tryz.prog 54=true:=by kernel_rfl
theorem pl55:plainFn Tryz.prog 55=true:=by kernel_rfl
theorem pl56:plainFn Tryz.prog 56=true:=by kernel_rfl
theorem pl57:plainFn Tryz.prog 57=true:=by kernel_rfl
theorem pl58:plainFn Tryz.prog 58=true:=by kernel_rfl
theorem pl59:plainFn Tryz.prog 59=true:=by kernel_rfl
theorem pl6:plainFn Tryz.prog 6=true:=by kernel_rfl
theorem pl60:plainFn Tryz.prog 60=true:=by kernel_rfl
theorem pl61:plainFn Tryz.prog 61=true:=by kernel_rfl
theorem pl62:plainFn Tryz.prog 62=true:=by kernel_rfl
theorem pl63:plainFn Tryz.prog 63=true:=by kernel_rfl
theorem pl64:plainFn Tryz.prog 64=true:=by kernel_rfl
theorem pl65:plainFn Tryz.prog 65=true:=by kernel_rfl
theorem pl66:plainFn Tryz.prog 66=true:=by kernel_rfl
theorem pl67:plainFn Tryz.prog 67=true:=by kernel_rfl
theorem pl68:plainFn Tryz.prog 68=true:=by kernel_rfl
theorem pl69:plainFn Tryz.prog 69=true:=by kernel_rfl
theorem pl7:plainFn Tryz.prog 7=true:=by kernel_rfl
theorem pl70:plainFn Tryz.prog 70=true:=by kernel_rfl
theorem pl71:plainFn Tryz.prog 71=true:=by kernel_rfl
theorem pl72:plainFn Tryz.prog 72=true:=by kernel_rfl
theorem pl73:plainFn Tryz.prog 73=true:=by kernel_rfl
theorem pl74:plainFn Tryz.prog 74=true:=by kernel_rfl
theorem pl75:plainFn Tryz.prog 75=true:=by kernel_rfl
theorem pl76:plainFn Tryz.prog 76=true:=by kernel_rfl
theorem pl77:plainFn Tryz.prog 77=true:=by kernel_rfl
theorem pl78:plainFn Tryz.prog 78=true:=by kernel_rfl
theorem pl79:plainFn Tryz.prog 79=true:=by kernel_rfl
theorem pl8:plainFn Tryz.prog 8=true:=by kernel_rfl
theorem pl80:plainFn Tryz.prog 80=true:=by kernel_rfl
theorem pl81:plainFn Tryz.prog 81=true:=by kernel_rfl
theorem pl82:plainFn Tryz.prog 82=true:=by kernel_rfl
theorem pl83:plainFn Tryz.prog 83=true:=by kernel_rfl
theorem pl84:plainFn Tryz.prog 84=true:=by kernel_rfl
theorem pl85:plainFn Tryz.prog 85=true:=by kernel_rfl
theorem pl86:plainFn Tryz.prog 86=true:=by kernel_rfl
theorem pl87:plainFn Tryz.prog 87=true:=by kernel_rfl
theorem pl88:plainFn Tryz.prog 88=true:=by kernel_rfl
theorem pl89:plainFn Tryz.prog 89=true:=by kernel_rfl
theorem pl9:plainFn Tryz.prog 9=true:=by kernel_rfl
theorem pl90:plainFn Tryz.prog 90=true:=by kernel_rfl
theorem pl91:plainFn Tryz.prog 91=true:=by kernel_rfl
theorem pl92:plainFn Tryz.prog 92=true:=by kernel_rfl
theorem pl93:plainFn Tryz.prog 93=true:=by kernel_rfl
theorem pl94:plainFn Tryz.prog 94=true:=by kernel_rfl
theorem pl95:plainFn Tryz.prog 95=true:=by kernel_rfl
theorem pl96:plainFn Tryz.prog 96=true:=by kernel_rfl
theorem pl97:plainFn Tryz.prog 97=true:=by kernel_rfl
theorem pl98:plainFn Tryz.prog 98=true:=by kernel_rfl
theorem pl99:plainFn Tryz.prog 99=true:=by kernel_rfl
theorem sT108:SlT Tryz.prog 108 DMsg:=SlT.of (b:=16) (by kernel_rfl) rfl
theorem sT156:SlT Tryz.prog 156 Bool:=SlT.of (b:=1) (by kernel_rfl) rfl
theorem sT22:SlT Tryz.prog 22 Int:=SlT.of (b:=8) (by kernel_rfl) rfl
theorem sT40:SlT Tryz.prog 40 DRes:=SlT.of (b:=40) (by kernel_rfl) rfl
theorem sT41:SlT Tryz.prog 41 DObj:=SlT.of (b:=152) (by kernel_rfl) rfl
theorem sT45:SlT Tryz.prog 45 DTap:=SlT.of (b:=48) (by kernel_rfl) rfl
theorem sz105:szV Tryz.prog 105=some 6:=by kernel_rfl
theorem sz110:szV Tryz.prog 110=some 13:=by kernel_rfl
theorem sz127:szV Tryz.prog 127=some 2:=by kernel_rfl
theorem sz130:szV Tryz.prog 130=some 5:=by kernel_rfl
theorem sz134:szV Tryz.prog 134=some 5:=by kernel_rfl
theorem sz138:szV Tryz.prog 138=some 6:=by kernel_rfl
theorem sz152:szV Tryz.prog 152=some 13:=by kernel_rfl
theorem sz178:szV Tryz.prog 178=some 2:=by kernel_rfl
theorem sz3:szV Tryz.prog 3=some 1:=by kernel_rfl
theorem sz4:szV Tryz.prog 4=some 1:=by kernel_rfl
theorem zv105:zeroV Tryz.prog 105=some (.agg #[.int .i64 0,.int .i64 0,.int .i64 0,.int .i64 0,.int .i64 0,.int .i64 0]):=by kernel_rfl
theorem zv110:zeroV Tryz.prog 110=some (.agg #[.int .i64 0,.int .i64 0,.int .i64 0,.int .i64 0,.int .i64 0,.int .i64 0,.int .i64 0,.int .i64 0,.int .i64 0,.bool false,.slice none 0 0,.slice none 0 0,.slice none 0 0]):=by kernel_rfl
theorem zv127:zeroV Tryz.prog 127=some (.agg #[.int .i64 0,.int .i64 0]):=by kernel_rfl
theorem zv130:zeroV Tryz.prog 130=some (.agg #[.bool false,.int .i64 0,.int .i64 0,.int .i64 0,.int .i64 0]):=by kernel_rfl
theorem zv39:zeroV Tryz.prog 39=some (.agg #[.slice none 0 0]):=by kernel_rfl
theorem zv42:zeroV Tryz.prog 42=some (.agg #[.int .i64 0,.int .i64 0,.int .i64 0,.slice none 0 0]):=by kernel_rfl
theorem zv44:zeroV Tryz.prog 44=some (.agg #[.slice none 0 0,.int .i64 0,.int .i64 0,.int .i64 0,.slice none 0 0]):=by kernel_rfl
theorem zv46:zeroV Tryz.prog 46=some (.agg #[.int .i64 0,.int .i64 0,.int .i64 0]):=by kernel_rfl
theorem zv48:zeroV Tryz.prog 48=some (.agg #[.slice none 0 0,.slice none 0 0,.slice none 0 0,.slice none 0 0,.int .i64 0,.int .i64 0,.int .i64 0,.slice none 0 0,.slice none 0 0,.int .i64 0,.int .i64 0,.int .i64 0,.int .i64 0,.int .i64 0,.int .i64 0,.int .i64 0]):=by kernel_rfl
theorem zv50:zeroV Tryz.prog 50=some (.agg #[.int .i64 0,.int .i64 0]):=by kernel_rfl
theorem zv54:zeroV Tryz.prog 54=some (.agg #[.int .i64 0,.int .i64 0,.int .i64 0,.int .i64 0,.int .i64 0,.int .i64 0]):=by kernel_rfl
instance:AgC Tryz.prog 105 (some 6):=⟨ag105⟩
instance:AgC Tryz.prog 108 none:=⟨ag108⟩
instance:AgC Tryz.prog 110 (some 13):=⟨ag110⟩
instance:AgC Tryz.prog 127 (some 2):=⟨ag127⟩
instance:AgC Tryz.prog 130 (some 5):=⟨ag130⟩
instance:AgC Tryz.prog 134 (some 5):=⟨ag134⟩
instance:AgC Tryz.prog 138 (some 6):=⟨ag138⟩
instance:AgC Tryz.prog 150 none:=⟨ag150⟩
instance:AgC Tryz.prog 152 (some 13):=⟨ag152⟩
instance:AgC Tryz.prog 178 (some 2):=⟨ag178⟩
instance:AgC Tryz.prog 22 none:=⟨ag22⟩
instance:AgC Tryz.prog 24 (some 1):=⟨ag24⟩
instance:AgC Tryz.prog 25 none:=⟨ag25⟩
instance:AgC Tryz.prog 26 none:=⟨ag26⟩
instance:AgC Tryz.prog 28 (some 4):=⟨ag28⟩
instance:AgC Tryz.prog 3 none:=⟨ag3⟩
instance:AgC Tryz.prog 30 (some 5):=⟨ag30⟩
instance:AgC Tryz.prog 31 none:=⟨ag31⟩
instance:AgC Tryz.prog 33 (some 3):=⟨ag33⟩
instance:AgC Tryz.prog 35 (some 16):=⟨ag35⟩
instance:AgC Tryz.prog 37 (some 6):=⟨ag37⟩
instance:AgC Tryz.prog 39 (some 1):=⟨ag39⟩
instance:AgC Tryz.prog 4 none:=⟨ag4⟩
instance:AgC Tryz.prog 40 none:=⟨ag40⟩
instance:AgC Tryz.prog 41 none:=⟨ag41⟩
instance:AgC Tryz.prog 42 (some 4):=⟨ag42⟩
instance:AgC Tryz.prog 44 (some 5):=⟨ag44⟩
instance:AgC Tryz.prog 45 none:=⟨ag45⟩
instance:AgC Tryz.prog 46 (some 3):=⟨ag46⟩
instance:AgC Tryz.prog 48 (some 16):=⟨ag48⟩
instance:AgC Tryz.prog 50 (some 2):=⟨ag50⟩
instance:AgC Tryz.prog 54 (some 6):=⟨ag54⟩
instance:FoC Tryz.prog 105 0 0 none:=⟨fo105_0⟩
instance:FoC Tryz.prog 105 1 1 none:=⟨fo105_1⟩
instance:FoC Tryz.prog 105 2 2 none:=⟨fo105_2⟩
instance:FoC Tryz.prog 105 3 3 none:=⟨fo105_3⟩
instance:FoC Tryz.prog 105 4 4 none:=⟨fo105_4⟩
instance:FoC Tryz.prog 105 5 5 none:=⟨fo105_5⟩
instance:FoC Tryz.prog 110 0 0 none:=⟨fo110_0⟩
instance:FoC Tryz.prog 110 1 1 none:=⟨fo110_1⟩
instance:FoC Tryz.prog 110 10 10 none:=⟨fo110_10⟩
instance:FoC Tryz.prog 110 11 11 none:=⟨fo110_11⟩
instance:FoC Tryz.prog 110 12 12 none:=⟨fo110_12⟩
instance:FoC Tryz.prog 110 2 2 none:=⟨fo110_2⟩
instance:FoC Tryz.prog 110 3 3 none:=⟨fo110_3⟩
instance:FoC Tryz.prog 110 4 4 none:=⟨fo110_4⟩
instance:FoC Tryz.prog 110 5 5 none:=⟨fo110_5⟩
instance:FoC Tryz.prog 110 6 6 none:=⟨fo110_6⟩
instance:FoC Tryz.prog 110 7 7 none:=⟨fo110_7⟩
instance:FoC Tryz.prog 110 8 8 none:=⟨fo110_8⟩
instance:FoC Tryz.prog 110 9 9 none:=⟨fo110_9⟩
instance:FoC Tryz.prog 127 0 0 none:=⟨fo127_0⟩
instance:FoC Tryz.prog 127 1 1 none:=⟨fo127_1⟩
instance:FoC Tryz.prog 130 0 0 none:=⟨fo130_0⟩
instance:FoC Tryz.prog 130 1 1 none:=⟨fo130_1⟩
instance:FoC Tryz.prog 130 2 2 (some 3):=⟨fo130_2⟩
instance:FoC Tryz.prog 134 0 0 none:=⟨fo134_0⟩
instance:FoC Tryz.prog 134 1 1 none:=⟨fo134_1⟩
instance:FoC Tryz.prog 134 2 2 (some 3):=⟨fo134_2⟩
instance:FoC Tryz.prog 138 0 0 none:=⟨fo138_0⟩
instance:FoC Tryz.prog 138 1 1 none:=⟨fo138_1⟩
instance:FoC Tryz.prog 138 2 2 none:=⟨fo138_2⟩
instance:FoC Tryz.prog 138 3 3 none:=⟨fo138_3⟩
instance:FoC Tryz.prog 138 4 4 none:=⟨fo138_4⟩
instance:FoC Tryz.prog 138 5 5 none:=⟨fo138_5⟩
instance:FoC Tryz.prog 152 0 0 none:=⟨fo152_0⟩
instance:FoC Tryz.prog 152 1 1 none:=⟨fo152_1⟩
instance:FoC Tryz.prog 152 10 10 none:=⟨fo152_10⟩
instance:FoC Tryz.prog 152 11 11 none:=⟨fo152_11⟩
instance:FoC Tryz.prog 152 12 12 none:=⟨fo152_12⟩
instance:FoC Tryz.prog 152 2 2 none:=⟨fo152_2⟩
instance:FoC Tryz.prog 152 3 3 none:=⟨fo152_3⟩
instance:FoC Tryz.prog 152 4 4 none:=⟨fo152_4⟩
instance:FoC Tryz.prog 152 5 5 none:=⟨fo152_5⟩
instance:FoC Tryz.prog 152 6 6 none:=⟨fo152_6⟩
instance:FoC Tryz.prog 152 7 7 none:=⟨fo152_7⟩
instance:FoC Tryz.prog 152 8 8 none:=⟨fo152_8⟩
instance:FoC Tryz.prog 152 9 9 none:=⟨fo152_9⟩
instance:FoC Tryz.prog 178 0 0 none:=⟨fo178_0⟩
instance:FoC Tryz.prog 178 1 1 none:=⟨fo178_1⟩
instance:FoC Tryz.prog 24 0 0 none:=⟨fo24_0⟩
instance:FoC Tryz.prog 28 0 0 none:=⟨fo28_0⟩
instance:FoC Tryz.prog 28 1 1 none:=⟨fo28_1⟩
instance:FoC Tryz.prog 28 2 2 none:=⟨fo28_2⟩
instance:FoC Tryz.prog 28 3 3 none:=⟨fo28_3⟩
instance:FoC Tryz.prog 30 0 0 none:=⟨fo30_0⟩
instance:FoC Tryz.prog 30 1 1 (some 4):=⟨fo30_1⟩
instance:FoC Tryz.prog 33 0 0 none:=⟨fo33_0⟩
instance:FoC Tryz.prog 33 1 1 none:=⟨fo33_1⟩
instance:FoC Tryz.prog 33 2 2 none:=⟨fo33_2⟩
instance:FoC Tryz.prog 35 0 0 (some 1):=⟨fo35_0⟩
instance:FoC Tryz.prog 35 1 1 none:=⟨fo35_1⟩
instance:FoC Tryz.prog 35 2 2 none:=⟨fo35_2⟩
instance:FoC Tryz.prog 35 3 3 (some 5):=⟨fo35_3⟩
instance:FoC Tryz.prog 35 4 8 none:=⟨fo35_4⟩
instance:FoC Tryz.prog 35 5 9 none:=⟨fo35_5⟩
instance:FoC Tryz.prog 35 6 10 none:=⟨fo35_6⟩
instance:FoC Tryz.prog 35 7 11 (some 3):=⟨fo35_7⟩
instance:FoC Tryz.prog 35 8 14 none:=⟨fo35_8⟩
instance:FoC Tryz.prog 35 9 15 none:=⟨fo35_9⟩
instance:FoC Tryz.prog 37 0 0 none:=⟨fo37_0⟩
instance:FoC Tryz.prog 37 1 1 none:=⟨fo37_1⟩
instance:FoC Tryz.prog 37 2 2 none:=⟨fo37_2⟩
instance:FoC Tryz.prog 37 3 3 none:=⟨fo37_3⟩
instance:FoC Tryz.prog 37 4 4 none:=⟨fo37_4⟩
instance:FoC Tryz.prog 37 5 5 none:=⟨fo37_5⟩
instance:FoC Tryz.prog 39 0 0 none:=⟨fo39_0⟩
instance:FoC Tryz.prog 42 0 0 none:=⟨fo42_0⟩
instance:FoC Tryz.prog 42 1 1 none:=⟨fo42_1⟩
instance:FoC Tryz.prog 42 2 2 none:=⟨fo42_2⟩
instance:FoC Tryz.prog 42 3 3 none:=⟨fo42_3⟩
instance:FoC Tryz.prog 44 0 0 none:=⟨fo44_0⟩
instance:FoC Tryz.prog 44 1 1 (some 4):=⟨fo44_1⟩
instance:FoC Tryz.prog 46 0 0 none:=⟨fo46_0⟩
instance:FoC Tryz.prog 46 1 1 none:=⟨fo46_1⟩
instance:FoC Tryz.prog 46 2 2 none:=⟨fo46_2⟩
instance:FoC Tryz.prog 48 0 0 (some 1):=⟨fo48_0⟩
instance:FoC Tryz.prog 48 1 1 none:=⟨fo48_1⟩
instance:FoC Tryz.prog 48 2 2 none:=⟨fo48_2⟩
instance:FoC Tryz.prog 48 3 3 (some 5):=⟨fo48_3⟩
instance:FoC Tryz.prog 48 4 8 none:=⟨fo48_4⟩
instance:FoC Tryz.prog 48 5 9 none:=⟨fo48_5⟩
instance:FoC Tryz.prog 48 6 10 none:=⟨fo48_6⟩
instance:FoC Tryz.prog 48 7 11 (some 3):=⟨fo48_7⟩
instance:FoC Tryz.prog 48 8 14 none:=⟨fo48_8⟩
instance:FoC Tryz.prog 48 9 15 none:=⟨fo48_9⟩
instance:FoC Tryz.prog 50 0 0 none:=⟨fo50_0⟩
instance:FoC Tryz.prog 50 1 1 none:=⟨fo50_1⟩
instance:FoC Tryz.prog 54 0 0 none:=⟨fo54_0⟩
instance:FoC Tryz.prog 54 1 1 none:=⟨fo54_1⟩
instance:FoC Tryz.prog 54 2 2 none:=⟨fo54_2⟩
instance:FoC Tryz.prog 54 3 3 none:=⟨fo54_3⟩
instance:FoC Tryz.prog 54 4 4 none:=⟨fo54_4⟩
instance:FoC Tryz.prog 54 5 5 none:=⟨fo54_5⟩
instance:FoC Tryz.prog 81 0 0 (some 16):=⟨fo81_0⟩
instance:FoC Tryz.prog 81 1 16 none:=⟨fo81_1⟩
instance:FoC Tryz.prog 81 2 17 none:=⟨fo81_2⟩
instance:FoC Tryz.prog 81 3 18 none:=⟨fo81_3⟩
instance:PlC Tryz.prog 10:=⟨pl10⟩
instance:PlC Tryz.prog 100:=⟨pl100⟩
instance:PlC Tryz.prog 101:=⟨pl101⟩
instance:PlC Tryz.prog 102:=⟨pl102⟩
instance:PlC Tryz.prog 103:=⟨pl103⟩
instance:PlC Tryz.prog 104:=⟨pl104⟩
instance:PlC Tryz.prog 105:=⟨pl105⟩
instance:PlC Tryz.prog 106:=⟨pl106⟩
instance:PlC Tryz.prog 107:=⟨pl107⟩
instance:PlC Tryz.prog 108:=⟨pl108⟩
instance:PlC Tryz.prog 109:=⟨pl109⟩
instance:PlC Tryz.prog 11:=⟨pl11⟩
instance:PlC Tryz.prog 110:=⟨pl110⟩
instance:PlC Tryz.prog 111:=⟨pl111⟩
instance:PlC Tryz.prog 112:=⟨pl112⟩
instance:PlC Tryz.prog 113:=⟨pl113⟩
instance:PlC Tryz.prog 114:=⟨pl114⟩
instance:PlC Tryz.prog 115:=⟨pl115⟩
instance:PlC Tryz.prog 116:=⟨pl116⟩
instance:PlC Tryz.prog 117:=⟨pl117⟩
instance:PlC Tryz.prog 118:=⟨pl118⟩
instance:PlC Tryz.prog 119:=⟨pl119⟩
instance:PlC Tryz.prog 12:=⟨pl12⟩
instance:PlC Tryz.prog 120:=⟨pl120⟩
instance:PlC Tryz.prog 121:=⟨pl121⟩
instance:PlC Tryz.prog 122:=⟨pl122⟩
instance:PlC Tryz.prog 123:=⟨pl123⟩
instance:PlC Tryz.prog 124:=⟨pl124⟩
instance:PlC Tryz.prog 125:=⟨pl125⟩
instance:PlC Tryz.prog 126:=⟨pl126⟩
instance:PlC Tryz.prog 127:=⟨pl127⟩
instance:PlC Tryz.prog 128:=⟨pl128⟩
instance:PlC Tryz.prog 129:=⟨pl129⟩
instance:PlC Tryz.prog 13:=⟨pl13⟩
instance:PlC Tryz.prog 130:=⟨pl130⟩
instance:PlC Tryz.prog 131:=⟨pl131⟩
instance:PlC Tryz.prog 132:=⟨pl132⟩
instance:PlC Tryz.prog 133:=⟨pl133⟩
instance:PlC Tryz.prog 134:=⟨pl134⟩
instance:PlC Tryz.prog 135:=⟨pl135⟩
instance:PlC Tryz.prog 136:=⟨pl136⟩
instance:PlC Tryz.prog 137:=⟨pl137⟩
instance:PlC Tryz.prog 138:=⟨pl138⟩
instance:PlC Tryz.prog 139:=⟨pl139⟩
instance:PlC Tryz.prog 14:=⟨pl14⟩
instance:PlC Tryz.prog 140:=⟨pl140⟩
instance:PlC Tryz.prog 141:=⟨pl141⟩
instance:PlC Tryz.prog 142:=⟨pl142⟩
instance:PlC Tryz.prog 143:=⟨pl143⟩
instance:PlC Tryz.prog 144:=⟨pl144⟩
instance:PlC Tryz.prog 145:=⟨pl145⟩
instance:PlC Tryz.prog 146:=⟨pl146⟩
instance:PlC Tryz.prog 147:=⟨pl147⟩
instance:PlC Tryz.prog 148:=⟨pl148⟩
instance:PlC Tryz.prog 149:=⟨pl149⟩
instance:PlC Tryz.prog 15:=⟨pl15⟩
instance:PlC Tryz.prog 150:=⟨pl150⟩
instance:PlC Tryz.prog 151:=⟨pl151⟩
instance:PlC Tryz.prog 152:=⟨pl152⟩
instance:PlC Tryz.prog 153:=⟨pl153⟩
instance:PlC Tryz.prog 154:=⟨pl154⟩
instance:PlC Tryz.prog 155:=⟨pl155⟩
instance:PlC Tryz.prog 156:=⟨pl156⟩
instance:PlC Tryz.prog 157:=⟨pl157⟩
instance:PlC Tryz.prog 158:=⟨pl158⟩
instance:PlC Tryz.prog 159:=⟨pl159⟩
instance:PlC Tryz.prog 16:=⟨pl16⟩
instance:PlC Tryz.prog 160:=⟨pl160⟩
instance:PlC Tryz.prog 161:=⟨pl161⟩
instance:PlC Tryz.prog 162:=⟨pl162⟩
instance:PlC Tryz.prog 163:=⟨pl163⟩
instance:PlC Tryz.prog 164:=⟨pl164⟩
instance:PlC Tryz.prog 165:=⟨pl165⟩
instance:PlC Tryz.prog 166:=⟨pl166⟩
instance:PlC Tryz.prog 167:=⟨pl167⟩
instance:PlC Tryz.prog 168:=⟨pl168⟩
instance:PlC Tryz.prog 169:=⟨pl169⟩
instance:PlC Tryz.prog 17:=⟨pl17⟩
instance:PlC Tryz.prog 170:=⟨pl170⟩
instance:PlC Tryz.prog 171:=⟨pl171⟩
instance:PlC Tryz.prog 172:=⟨pl172⟩
instance:PlC Tryz.prog 173:=⟨pl173⟩
instance:PlC Tryz.prog 174:=⟨pl174⟩
instance:PlC Tryz.prog 175:=⟨pl175⟩
instance:PlC Tryz.prog 176:=⟨pl176⟩
instance:PlC Tryz.prog 177:=⟨pl177⟩
instance:PlC Tryz.prog 178:=⟨pl178⟩
instance:PlC Tryz.prog 179:=⟨pl179⟩
instance:PlC Tryz.prog 18:=⟨pl18⟩
instance:PlC Tryz.prog 180:=⟨pl180⟩
instance:PlC Tryz.prog 181:=⟨pl181⟩
instance:PlC Tryz.prog 182:=⟨pl182⟩
instance:PlC Tryz.prog 183:=⟨pl183⟩
instance:PlC Tryz.prog 184:=⟨pl184⟩
instance:PlC Tryz.prog 185:=⟨pl185⟩
instance:PlC Tryz.prog 186:=⟨pl186⟩
instance:PlC Tryz.prog 187:=⟨pl187⟩
instance:PlC Tryz.prog 188:=⟨pl188⟩
instance:PlC Tryz.prog 189:=⟨pl189⟩
instance:PlC Tryz.prog 19:=⟨pl19⟩
instance:PlC Tryz.prog 190:=⟨pl190⟩
instance:PlC Tryz.prog 191:=⟨pl191⟩
instance:PlC Tryz.prog 20:=⟨pl20⟩
instance:PlC Tryz.prog 21:=⟨pl21⟩
instance:PlC Tryz.prog 22:=⟨pl22⟩
instance:PlC Tryz.prog 23:=⟨pl23⟩
instance:PlC Tryz.prog 24:=⟨pl24⟩
instance:PlC Tryz.prog 25:=⟨pl25⟩
instance:PlC Tryz.prog 26:=⟨pl26⟩
instance:PlC Tryz.prog 27:=⟨pl27⟩
instance:PlC Tryz.prog 28:=⟨pl28⟩
instance:PlC Tryz.prog 29:=⟨pl29⟩
instance:PlC Tryz.prog 30:=⟨pl30⟩
instance:PlC Tryz.prog 31:=⟨pl31⟩
instance:PlC Tryz.prog 32:=⟨pl32⟩
instance:PlC Tryz.prog 33:=⟨pl33⟩
instance:PlC Tryz.prog 34:=⟨pl34⟩
instance:PlC Tryz.prog 35:=⟨pl35⟩
instance:PlC Tryz.prog 36:=⟨pl36⟩
instance:PlC Tryz.prog 37:=⟨pl37⟩
instance:PlC Tryz.prog 38:=⟨pl38⟩
instance:PlC Tryz.prog 39:=⟨pl39⟩
instance:PlC Tryz.prog 4:=⟨pl4⟩
instance:PlC Tryz.prog 40:=⟨pl40⟩
instance:PlC Tryz.prog 41:=⟨pl41⟩
instance:PlC Tryz.prog 42:=⟨pl42⟩
instance:PlC Tryz.prog 43:=⟨pl43⟩
instance:PlC Tryz.prog 44:=⟨pl44⟩
instance:PlC Tryz.prog 45:=⟨pl45⟩
instance:PlC Tryz.prog 46:=⟨pl46⟩
instance:PlC Tryz.prog 47:=⟨pl47⟩
instance:PlC Tryz.prog 48:=⟨pl48⟩
instance:PlC Tryz.prog 49:=⟨pl49⟩
instance:PlC Tryz.prog 5:=⟨pl5⟩
instance:PlC Tryz.prog 50:=⟨pl50⟩
instance:PlC Tryz.prog 51:=⟨pl51⟩
instance:PlC Tryz.prog 52:=⟨pl52⟩
instance:PlC Tryz.prog 53:=⟨pl53⟩
instance:PlC Tryz.prog 54:=⟨pl54⟩
instance:PlC Tryz.prog 55:=⟨pl55⟩
instance:PlC Tryz.prog 56:=⟨pl56⟩
instance:PlC Tryz.prog 57:=⟨pl57⟩
instance:PlC Tryz.prog 58:=⟨pl58⟩
instance:PlC Tryz.prog 59:=⟨pl59⟩
instance:PlC Tryz.prog 6:=⟨pl6⟩
instance:PlC Tryz.prog 60:=⟨pl60⟩
instance:PlC Tryz.prog 61:=⟨pl61⟩
instance:PlC Tryz.prog 62:=⟨pl62⟩
instance:PlC Tryz.prog 63:=⟨pl63⟩
instance:PlC Tryz.prog 64:=⟨pl64⟩
instance:PlC Tryz.prog 65:=⟨pl65⟩
instance:PlC Tryz.prog 66:=⟨pl66⟩
instance:PlC Tryz.prog 67:=⟨pl67⟩
instance:PlC Tryz.prog 68:=⟨pl68⟩
instance:PlC Tryz.prog 69:=⟨pl69⟩
instance:PlC Tryz.prog 7:=⟨pl7⟩
instance:PlC Tryz.prog 70:=⟨pl70⟩
instance:PlC Tryz.prog 71:=⟨pl71⟩
instance:PlC Tryz.prog 72:=⟨pl72⟩
instance:PlC Tryz.prog 73:=⟨pl73⟩
instance:PlC Tryz.prog 74:=⟨pl74⟩
instance:PlC Tryz.prog 75:=⟨pl75⟩
instance:PlC Tryz.prog 76:=⟨pl76⟩
instance:PlC Tryz.prog 77:=⟨pl77⟩
instance:PlC Tryz.prog 78:=⟨pl78⟩
instance:PlC Tryz.prog 79:=⟨pl79⟩
instance:PlC Tryz.prog 8:=⟨pl8⟩
instance:PlC Tryz.prog 80:=⟨pl80⟩
instance:PlC Tryz.prog 81:=⟨pl81⟩
instance:PlC Tryz.prog 82:=⟨pl82⟩
instance:PlC Tryz.prog 83:=⟨pl83⟩
instance:PlC Tryz.prog 84:=⟨pl84⟩
instance:PlC Tryz.prog 85:=⟨pl85⟩
instance:PlC Tryz.prog 86:=⟨pl86⟩
instance:PlC Tryz.prog 87:=⟨pl87⟩
instance:PlC Tryz.prog 88:=⟨pl88⟩
instance:PlC Tryz.prog 89:=⟨pl89⟩
instance:PlC Tryz.prog 9:=⟨pl9⟩
instance:PlC Tryz.prog 90:=⟨pl90⟩
instance:PlC Tryz.prog 91:=⟨pl91⟩
instance:PlC Tryz.prog 92:=⟨pl92⟩
instance:PlC Tryz.prog 93:=⟨pl93⟩
instance:PlC Tryz.prog 94:=⟨pl94⟩
instance:PlC Tryz.prog 95:=⟨pl95⟩
instance:PlC Tryz.prog 96:=⟨pl96⟩
instance:PlC Tryz.prog 97:=⟨pl97⟩
instance:PlC Tryz.prog 98:=⟨pl98⟩
instance:PlC Tryz.prog 99:=⟨pl99⟩
instance:ZvC Tryz.prog 105:=⟨_,zv105⟩
instance:ZvC Tryz.prog 110:=⟨_,zv110⟩
instance:ZvC Tryz.prog 127:=⟨_,zv127⟩
instance:ZvC Tryz.prog 130:=⟨_,zv130⟩
instance:ZvC Tryz.prog 39:=⟨_,zv39⟩
instance:ZvC Tryz.prog 42:=⟨_,zv42⟩
instance:ZvC Tryz.prog 44:=⟨_,zv44⟩
instance:ZvC Tryz.prog 46:=⟨_,zv46⟩
instance:ZvC Tryz.prog 48:=⟨_,zv48⟩
instance:ZvC Tryz.prog 50:=⟨_,zv50⟩
instance:ZvC Tryz.prog 54:=⟨_,zv54⟩
instance:UnC Tryz.prog 22 (.slice 3):=⟨Tryz.underlying22⟩
instance:UnC Tryz.prog 25 (.slice 134):=⟨Tryz.underlying25⟩
instance:UnC Tryz.prog 26 (.slice 152):=⟨Tryz.underlying26⟩
instance:UnC Tryz.prog 31 (.slice 138):=⟨Tryz.underlying31⟩
instance:UnC Tryz.prog 40 (.slice 130):=⟨Tryz.underlying40⟩
instance:UnC Tryz.prog 41 (.slice 110):=⟨Tryz.underlying41⟩
instance:UnC Tryz.prog 45 (.slice 105):=⟨Tryz.underlying45⟩
instance:UnC Tryz.prog 108 (.slice 127):=⟨Tryz.underlying108⟩
instance:UnC Tryz.prog 150 (.slice 178):=⟨Tryz.underlying150⟩
instance:UnC Tryz.prog 156 (.slice 4):=⟨Tryz.underlying156⟩
end Go.Kx
