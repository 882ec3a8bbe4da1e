/- Closed facts of the program's types and functions. Printed by drive.py. -/
import Derived.Test.YtoboopmbcaglcaaProg
import Derived.Test.YtoboopmbcaglcaaDat
namespace Go.Kx
open Go Go.RowKit Go.Proofs
set_option maxRecDepth 10000
set_option maxHeartbeats 2000000
set_option linter.unusedVariables false
set_option linter.unusedSimpArgs false
theorem ag111 : aggV Try.prog 111 = some (some 5) := by kernel_rfl
theorem ag116 : aggV Try.prog 116 = some (some 5) := by kernel_rfl
theorem ag125 : aggV Try.prog 125 = some (some 3) := by kernel_rfl
theorem ag145 : aggV Try.prog 145 = some none := by kernel_rfl
theorem ag147 : aggV Try.prog 147 = some (some 13) := by kernel_rfl
theorem ag175 : aggV Try.prog 175 = some (some 5) := by kernel_rfl
theorem ag177 : aggV Try.prog 177 = some (some 6) := by kernel_rfl
theorem ag185 : aggV Try.prog 185 = some (some 5) := by kernel_rfl
theorem ag189 : aggV Try.prog 189 = some (some 6) := by kernel_rfl
theorem ag208 : aggV Try.prog 208 = some none := by kernel_rfl
theorem ag210 : aggV Try.prog 210 = some (some 13) := by kernel_rfl
theorem ag217 : aggV Try.prog 217 = some (some 2) := by kernel_rfl
theorem ag224 : aggV Try.prog 224 = some (some 2) := by kernel_rfl
theorem ag3 : aggV Try.prog 3 = some none := by kernel_rfl
theorem ag4 : aggV Try.prog 4 = some none := by kernel_rfl
theorem ag44 : aggV Try.prog 44 = some (some 6) := by kernel_rfl
theorem ag46 : aggV Try.prog 46 = some (some 9) := by kernel_rfl
theorem ag47 : aggV Try.prog 47 = some none := by kernel_rfl
theorem ag49 : aggV Try.prog 49 = some (some 1) := by kernel_rfl
theorem ag52 : aggV Try.prog 52 = some (some 6) := by kernel_rfl
theorem ag54 : aggV Try.prog 54 = some (some 9) := by kernel_rfl
theorem ag56 : aggV Try.prog 56 = some (some 1) := by kernel_rfl
theorem ag61 : aggV Try.prog 61 = some (some 3) := by kernel_rfl
theorem ag69 : aggV Try.prog 69 = some none := by kernel_rfl
theorem ag74 : aggV Try.prog 74 = some none := by kernel_rfl
theorem ag76 : aggV Try.prog 76 = some (some 2) := by kernel_rfl
theorem ag79 : aggV Try.prog 79 = some none := by kernel_rfl
theorem ag80 : aggV Try.prog 80 = some none := by kernel_rfl
theorem ag82 : aggV Try.prog 82 = some (some 4) := by kernel_rfl
theorem ag84 : aggV Try.prog 84 = some (some 5) := by kernel_rfl
theorem ag85 : aggV Try.prog 85 = some none := by kernel_rfl
theorem ag86 : aggV Try.prog 86 = some (some 3) := by kernel_rfl
theorem ag88 : aggV Try.prog 88 = some (some 16) := by kernel_rfl
theorem ag9 : aggV Try.prog 9 = some none := by kernel_rfl
theorem ag91 : aggV Try.prog 91 = some none := by kernel_rfl
theorem ag92 : aggV Try.prog 92 = some none := by kernel_rfl
theorem ag93 : aggV Try.prog 93 = some (some 4) := by kernel_rfl
theorem ag95 : aggV Try.prog 95 = some (some 5) := by kernel_rfl
theorem ag96 : aggV Try.prog 96 = some none := by kernel_rfl
theorem ag98 : aggV Try.prog 98 = some (some 16) := by kernel_rfl
theorem eg175 : Program.eqGuardType Try.prog Try.prog.depth 175 = false := by kernel_rfl
theorem eg177 : Program.eqGuardType Try.prog Try.prog.depth 177 = false := by kernel_rfl
theorem eg217 : Program.eqGuardType Try.prog Try.prog.depth 217 = false := by kernel_rfl
theorem eg61 : Program.eqGuardType Try.prog Try.prog.depth 61 = false := by kernel_rfl
theorem eq175 : ∀ (a b : DRes) (w : World), (Op.equalIn 10000 175 (.agg #[.bool a.live, .int .i64 a.parent, .int .i64 a.bal.pages, .int .i64 a.bal.rent, .int .i64 a.bal.cpu]) (.agg #[.bool b.live, .int .i64 b.parent, .int .i64 b.bal.pages, .int .i64 b.bal.rent, .int .i64 b.bal.cpu])).run Try.prog w = .ok (decide (a = b)) w := fun a b w => EqT.top (n := 2) (EqT.agg (n := 1) Try.underlying175 (by kernel_rfl) (EqF.one rfl ag4 rfl rfl (EqT.bool Try.underlying4) (EqF.one rfl ag3 rfl rfl (EqT.int Try.underlying3) (EqF.more rfl ag61 (EqT.agg (n := 0) Try.underlying61 (by kernel_rfl) (EqF.one rfl ag3 rfl rfl (EqT.int Try.underlying3) (EqF.one rfl ag3 rfl rfl (EqT.int Try.underlying3) (EqF.one rfl ag3 rfl rfl (EqT.int Try.underlying3) EqF.nil)))) EqF.nil)))) (by decide) (by
  obtain ⟨x0, x1, ⟨x2, x3, x4⟩⟩ := a
  obtain ⟨y0, y1, ⟨y2, y3, y4⟩⟩ := b
  simp [DRes.mk.injEq, DAmt.mk.injEq, Bool.beq_eq_decide_eq, Bool.decide_and]) w
theorem eq177 : ∀ (a b : DTap) (w : World), (Op.equalIn 10000 177 (.agg #[.int .i64 a.res, .int .i64 a.toPart, .int .i64 a.toRes, .int .i64 a.which, .int .i64 a.kind, .int .i64 a.rate]) (.agg #[.int .i64 b.res, .int .i64 b.toPart, .int .i64 b.toRes, .int .i64 b.which, .int .i64 b.kind, .int .i64 b.rate])).run Try.prog w = .ok (decide (a = b)) w := fun a b w => EqT.top (n := 1) (EqT.agg (n := 0) Try.underlying177 (by kernel_rfl) (EqF.one rfl ag3 rfl rfl (EqT.int Try.underlying3) (EqF.one rfl ag3 rfl rfl (EqT.int Try.underlying3) (EqF.one rfl ag3 rfl rfl (EqT.int Try.underlying3) (EqF.one rfl ag3 rfl rfl (EqT.int Try.underlying3) (EqF.one rfl ag3 rfl rfl (EqT.int Try.underlying3) (EqF.one rfl ag3 rfl rfl (EqT.int Try.underlying3) EqF.nil))))))) (by decide) (by
  obtain ⟨x0, x1, x2, x3, x4, x5⟩ := a
  obtain ⟨y0, y1, y2, y3, y4, y5⟩ := b
  simp [DTap.mk.injEq, Bool.beq_eq_decide_eq, Bool.decide_and]) w
theorem eq217 : ∀ (a b : DMsg) (w : World), (Op.equalIn 10000 217 (.agg #[.int .i64 a.src, .int .i64 a.n]) (.agg #[.int .i64 b.src, .int .i64 b.n])).run Try.prog w = .ok (decide (a = b)) w := fun a b w => EqT.top (n := 1) (EqT.agg (n := 0) Try.underlying217 (by kernel_rfl) (EqF.one rfl ag3 rfl rfl (EqT.int Try.underlying3) (EqF.one rfl ag3 rfl rfl (EqT.int Try.underlying3) EqF.nil))) (by decide) (by
  obtain ⟨x0, x1⟩ := a
  obtain ⟨y0, y1⟩ := b
  simp [DMsg.mk.injEq, Bool.beq_eq_decide_eq, Bool.decide_and]) w
theorem eq61 : ∀ (a b : DAmt) (w : World), (Op.equalIn 10000 61 (.agg #[.int .i64 a.pages, .int .i64 a.rent, .int .i64 a.cpu]) (.agg #[.int .i64 b.pages, .int .i64 b.rent, .int .i64 b.cpu])).run Try.prog w = .ok (decide (a = b)) w := fun a b w => EqT.top (n := 1) (EqT.agg (n := 0) Try.underlying61 (by kernel_rfl) (EqF.one rfl ag3 rfl rfl (EqT.int Try.underlying3) (EqF.one rfl ag3 rfl rfl (EqT.int Try.underlying3) (EqF.one rfl ag3 rfl rfl (EqT.int Try.underlying3) EqF.nil)))) (by decide) (by
  obtain ⟨x0, x1, x2⟩ := a
  obtain ⟨y0, y1, y2⟩ := b
  simp [DAmt.mk.injEq, Bool.beq_eq_decide_eq, Bool.decide_and]) w
theorem fo111_0 : fo Try.prog 111 0 = some (0, some 1) := by kernel_rfl
theorem fo111_1 : fo Try.prog 111 1 = some (1, none) := by kernel_rfl
theorem fo111_2 : fo Try.prog 111 2 = some (2, some 3) := by kernel_rfl
theorem fo116_0 : fo Try.prog 116 0 = some (0, some 1) := by kernel_rfl
theorem fo116_1 : fo Try.prog 116 1 = some (1, none) := by kernel_rfl
theorem fo116_2 : fo Try.prog 116 2 = some (2, some 3) := by kernel_rfl
theorem fo125_0 : fo Try.prog 125 0 = some (0, none) := by kernel_rfl
theorem fo125_1 : fo Try.prog 125 1 = some (1, none) := by kernel_rfl
theorem fo125_2 : fo Try.prog 125 2 = some (2, none) := by kernel_rfl
theorem fo147_0 : fo Try.prog 147 0 = some (0, none) := by kernel_rfl
theorem fo147_1 : fo Try.prog 147 1 = some (1, none) := by kernel_rfl
theorem fo147_10 : fo Try.prog 147 10 = some (10, none) := by kernel_rfl
theorem fo147_11 : fo Try.prog 147 11 = some (11, none) := by kernel_rfl
theorem fo147_12 : fo Try.prog 147 12 = some (12, none) := by kernel_rfl
theorem fo147_2 : fo Try.prog 147 2 = some (2, none) := by kernel_rfl
theorem fo147_3 : fo Try.prog 147 3 = some (3, none) := by kernel_rfl
theorem fo147_4 : fo Try.prog 147 4 = some (4, none) := by kernel_rfl
theorem fo147_5 : fo Try.prog 147 5 = some (5, none) := by kernel_rfl
theorem fo147_6 : fo Try.prog 147 6 = some (6, none) := by kernel_rfl
theorem fo147_7 : fo Try.prog 147 7 = some (7, none) := by kernel_rfl
theorem fo147_8 : fo Try.prog 147 8 = some (8, none) := by kernel_rfl
theorem fo147_9 : fo Try.prog 147 9 = some (9, none) := by kernel_rfl
theorem fo175_0 : fo Try.prog 175 0 = some (0, none) := by kernel_rfl
theorem fo175_1 : fo Try.prog 175 1 = some (1, none) := by kernel_rfl
theorem fo175_2 : fo Try.prog 175 2 = some (2, some 3) := by kernel_rfl
theorem fo177_0 : fo Try.prog 177 0 = some (0, none) := by kernel_rfl
theorem fo177_1 : fo Try.prog 177 1 = some (1, none) := by kernel_rfl
theorem fo177_2 : fo Try.prog 177 2 = some (2, none) := by kernel_rfl
theorem fo177_3 : fo Try.prog 177 3 = some (3, none) := by kernel_rfl
theorem fo177_4 : fo Try.prog 177 4 = some (4, none) := by kernel_rfl
theorem fo177_5 : fo Try.prog 177 5 = some (5, none) := by kernel_rfl
theorem fo185_0 : fo Try.prog 185 0 = some (0, none) := by kernel_rfl
theorem fo185_1 : fo Try.prog 185 1 = some (1, none) := by kernel_rfl
theorem fo185_2 : fo Try.prog 185 2 = some (2, some 3) := by kernel_rfl
theorem fo189_0 : fo Try.prog 189 0 = some (0, none) := by kernel_rfl
theorem fo189_1 : fo Try.prog 189 1 = some (1, none) := by kernel_rfl
theorem fo189_2 : fo Try.prog 189 2 = some (2, none) := by kernel_rfl
theorem fo189_3 : fo Try.prog 189 3 = some (3, none) := by kernel_rfl
theorem fo189_4 : fo Try.prog 189 4 = some (4, none) := by kernel_rfl
theorem fo189_5 : fo Try.prog 189 5 = some (5, none) := by kernel_rfl
theorem fo210_0 : fo Try.prog 210 0 = some (0, none) := by kernel_rfl
theorem fo210_1 : fo Try.prog 210 1 = some (1, none) := by kernel_rfl
theorem fo210_10 : fo Try.prog 210 10 = some (10, none) := by kernel_rfl
theorem fo210_11 : fo Try.prog 210 11 = some (11, none) := by kernel_rfl
theorem fo210_12 : fo Try.prog 210 12 = some (12, none) := by kernel_rfl
theorem fo210_2 : fo Try.prog 210 2 = some (2, none) := by kernel_rfl
theorem fo210_3 : fo Try.prog 210 3 = some (3, none) := by kernel_rfl
theorem fo210_4 : fo Try.prog 210 4 = some (4, none) := by kernel_rfl
theorem fo210_5 : fo Try.prog 210 5 = some (5, none) := by kernel_rfl
theorem fo210_6 : fo Try.prog 210 6 = some (6, none) := by kernel_rfl
theorem fo210_7 : fo Try.prog 210 7 = some (7, none) := by kernel_rfl
theorem fo210_8 : fo Try.prog 210 8 = some (8, none) := by kernel_rfl
theorem fo210_9 : fo Try.prog 210 9 = some (9, none) := by kernel_rfl
theorem fo217_0 : fo Try.prog 217 0 = some (0, none) := by kernel_rfl
theorem fo217_1 : fo Try.prog 217 1 = some (1, none) := by kernel_rfl
theorem fo224_0 : fo Try.prog 224 0 = some (0, none) := by kernel_rfl
theorem fo224_1 : fo Try.prog 224 1 = some (1, none) := by kernel_rfl
theorem fo44_0 : fo Try.prog 44 0 = some (0, none) := by kernel_rfl
theorem fo44_1 : fo Try.prog 44 1 = some (1, none) := by kernel_rfl
theorem fo44_2 : fo Try.prog 44 2 = some (2, none) := by kernel_rfl
theorem fo44_3 : fo Try.prog 44 3 = some (3, none) := by kernel_rfl
theorem fo44_4 : fo Try.prog 44 4 = some (4, none) := by kernel_rfl
theorem fo44_5 : fo Try.prog 44 5 = some (5, none) := by kernel_rfl
theorem fo46_0 : fo Try.prog 46 0 = some (0, none) := by kernel_rfl
theorem fo46_1 : fo Try.prog 46 1 = some (1, none) := by kernel_rfl
theorem fo46_2 : fo Try.prog 46 2 = some (2, none) := by kernel_rfl
theorem fo46_3 : fo Try.prog 46 3 = some (3, some 6) := by kernel_rfl
theorem fo49_0 : fo Try.prog 49 0 = some (0, none) := by kernel_rfl
theorem fo52_0 : fo Try.prog 52 0 = some (0, none) := by kernel_rfl
theorem fo52_1 : fo Try.prog 52 1 = some (1, none) := by kernel_rfl
theorem fo52_2 : fo Try.prog 52 2 = some (2, none) := by kernel_rfl
theorem fo52_3 : fo Try.prog 52 3 = some (3, none) := by kernel_rfl
theorem fo52_4 : fo Try.prog 52 4 = some (4, none) := by kernel_rfl
theorem fo52_5 : fo Try.prog 52 5 = some (5, none) := by kernel_rfl
theorem fo54_0 : fo Try.prog 54 0 = some (0, none) := by kernel_rfl
theorem fo54_1 : fo Try.prog 54 1 = some (1, none) := by kernel_rfl
theorem fo54_2 : fo Try.prog 54 2 = some (2, none) := by kernel_rfl
theorem fo54_3 : fo Try.prog 54 3 = some (3, some 6) := by kernel_rfl
theorem fo56_0 : fo Try.prog 56 0 = some (0, none) := by kernel_rfl
theorem fo61_0 : fo Try.prog 61 0 = some (0, none) := by kernel_rfl
theorem fo61_1 : fo Try.prog 61 1 = some (1, none) := by kernel_rfl
theorem fo61_2 : fo Try.prog 61 2 = some (2, none) := by kernel_rfl
theorem fo71_0 : fo Try.prog 71 0 = some (0, none) := by kernel_rfl
theorem fo71_1 : fo Try.prog 71 1 = some (1, none) := by kernel_rfl
theorem fo76_0 : fo Try.prog 76 0 = some (0, none) := by kernel_rfl
theorem fo76_1 : fo Try.prog 76 1 = some (1, none) := by kernel_rfl
theorem fo82_0 : fo Try.prog 82 0 = some (0, none) := by kernel_rfl
theorem fo82_1 : fo Try.prog 82 1 = some (1, none) := by kernel_rfl
theorem fo82_2 : fo Try.prog 82 2 = some (2, none) := by kernel_rfl
theorem fo82_3 : fo Try.prog 82 3 = some (3, none) := by kernel_rfl
theorem fo84_0 : fo Try.prog 84 0 = some (0, none) := by kernel_rfl
theorem fo84_1 : fo Try.prog 84 1 = some (1, some 4) := by kernel_rfl
theorem fo86_0 : fo Try.prog 86 0 = some (0, none) := by kernel_rfl
theorem fo86_1 : fo Try.prog 86 1 = some (1, none) := by kernel_rfl
theorem fo86_2 : fo Try.prog 86 2 = some (2, none) := by kernel_rfl
theorem fo88_0 : fo Try.prog 88 0 = some (0, some 1) := by kernel_rfl
theorem fo88_1 : fo Try.prog 88 1 = some (1, none) := by kernel_rfl
theorem fo88_2 : fo Try.prog 88 2 = some (2, none) := by kernel_rfl
theorem fo88_3 : fo Try.prog 88 3 = some (3, some 5) := by kernel_rfl
theorem fo88_4 : fo Try.prog 88 4 = some (8, none) := by kernel_rfl
theorem fo88_5 : fo Try.prog 88 5 = some (9, none) := by kernel_rfl
theorem fo88_6 : fo Try.prog 88 6 = some (10, none) := by kernel_rfl
theorem fo88_7 : fo Try.prog 88 7 = some (11, some 3) := by kernel_rfl
theorem fo88_8 : fo Try.prog 88 8 = some (14, none) := by kernel_rfl
theorem fo88_9 : fo Try.prog 88 9 = some (15, none) := by kernel_rfl
theorem fo93_0 : fo Try.prog 93 0 = some (0, none) := by kernel_rfl
theorem fo93_1 : fo Try.prog 93 1 = some (1, none) := by kernel_rfl
theorem fo93_2 : fo Try.prog 93 2 = some (2, none) := by kernel_rfl
theorem fo93_3 : fo Try.prog 93 3 = some (3, none) := by kernel_rfl
theorem fo95_0 : fo Try.prog 95 0 = some (0, none) := by kernel_rfl
theorem fo95_1 : fo Try.prog 95 1 = some (1, some 4) := by kernel_rfl
theorem fo98_0 : fo Try.prog 98 0 = some (0, some 1) := by kernel_rfl
theorem fo98_1 : fo Try.prog 98 1 = some (1, none) := by kernel_rfl
theorem fo98_2 : fo Try.prog 98 2 = some (2, none) := by kernel_rfl
theorem fo98_3 : fo Try.prog 98 3 = some (3, some 5) := by kernel_rfl
theorem fo98_4 : fo Try.prog 98 4 = some (8, none) := by kernel_rfl
theorem fo98_5 : fo Try.prog 98 5 = some (9, none) := by kernel_rfl
theorem fo98_6 : fo Try.prog 98 6 = some (10, none) := by kernel_rfl
theorem fo98_7 : fo Try.prog 98 7 = some (11, some 3) := by kernel_rfl
theorem fo98_8 : fo Try.prog 98 8 = some (14, none) := by kernel_rfl
theorem fo98_9 : fo Try.prog 98 9 = some (15, none) := by kernel_rfl
theorem pl101 : plainFn Try.prog 101 = true := by kernel_rfl
theorem pl102 : plainFn Try.prog 102 = true := by kernel_rfl
theorem pl103 : plainFn Try.prog 103 = true := by kernel_rfl
theorem pl106 : plainFn Try.prog 106 = true := by kernel_rfl
theorem pl107 : plainFn Try.prog 107 = true := by kernel_rfl
theorem pl108 : plainFn Try.prog 108 = true := by kernel_rfl
theorem pl109 : plainFn Try.prog 109 = true := by kernel_rfl
theorem pl110 : plainFn Try.prog 110 = true := by kernel_rfl
theorem pl112 : plainFn Try.prog 112 = true := by kernel_rfl
theorem pl113 : plainFn Try.prog 113 = true := by kernel_rfl
theorem pl114 : plainFn Try.prog 114 = true := by kernel_rfl
theorem pl116 : plainFn Try.prog 116 = true := by kernel_rfl
theorem pl118 : plainFn Try.prog 118 = true := by kernel_rfl
theorem pl121 : plainFn Try.prog 121 = true := by kernel_rfl
theorem pl122 : plainFn Try.prog 122 = true := by kernel_rfl
theorem pl127 : plainFn Try.prog 127 = true := by kernel_rfl
theorem pl128 : plainFn Try.prog 128 = true := by kernel_rfl
theorem pl129 : plainFn Try.prog 129 = true := by kernel_rfl
theorem pl130 : plainFn Try.prog 130 = true := by kernel_rfl
theorem pl140 : plainFn Try.prog 140 = true := by kernel_rfl
theorem pl144 : plainFn Try.prog 144 = true := by kernel_rfl
theorem pl145 : plainFn Try.prog 145 = true := by kernel_rfl
theorem pl146 : plainFn Try.prog 146 = true := by kernel_rfl
theorem pl147 : plainFn Try.prog 147 = true := by kernel_rfl
theorem pl148 : plainFn Try.prog 148 = true := by kernel_rfl
theorem pl149 : plainFn Try.prog 149 = true := by kernel_rfl
theorem pl150 : plainFn Try.prog 150 = true := by kernel_rfl
theorem pl152 : plainFn Try.prog 152 = true := by kernel_rfl
theorem pl156 : plainFn Try.prog 156 = true := by kernel_rfl
theorem pl157 : plainFn Try.prog 157 = true := by kernel_rfl
theorem pl159 : plainFn Try.prog 159 = true := by kernel_rfl
theorem pl16 : plainFn Try.prog 16 = true := by kernel_rfl
theorem pl160 : plainFn Try.prog 160 = true := by kernel_rfl
theorem pl161 : plainFn Try.prog 161 = true := by kernel_rfl
theorem pl162 : plainFn Try.prog 162 = true := by kernel_rfl
theorem pl163 : plainFn Try.prog 163 = true := by kernel_rfl
theorem pl165 : plainFn Try.prog 165 = true := by kernel_rfl
theorem pl166 : plainFn Try.prog 166 = true := by kernel_rfl
theorem pl167 : plainFn Try.prog 167 = true := by kernel_rfl
theorem pl168 : plainFn Try.prog 168 = true := by kernel_rfl
theorem pl169 : plainFn Try.prog 169 = true := by kernel_rfl
theorem pl17 : plainFn Try.prog 17 = true := by kernel_rfl
theorem pl173 : plainFn Try.prog 173 = true := by kernel_rfl
theorem pl175 : plainFn Try.prog 175 = true := by kernel_rfl
theorem pl180 : plainFn Try.prog 180 = true := by kernel_rfl
theorem pl181 : plainFn Try.prog 181 = true := by kernel_rfl
theorem pl185 : plainFn Try.prog 185 = true := by kernel_rfl
theorem pl186 : plainFn Try.prog 186 = true := by kernel_rfl
theorem pl188 : plainFn Try.prog 188 = true := by kernel_rfl
theorem pl193 : plainFn Try.prog 193 = true := by kernel_rfl
theorem pl194 : plainFn Try.prog 194 = true := by kernel_rfl
theorem pl195 : plainFn Try.prog 195 = true := by kernel_rfl
theorem pl197 : plainFn Try.prog 197 = true := by kernel_rfl
theorem pl200 : plainFn Try.prog 200 = true := by kernel_rfl
theorem pl203 : plainFn Try.prog 203 = true := by kernel_rfl
theorem pl204 : plainFn Try.prog 204 = true := by kernel_rfl
theorem pl205 : plainFn Try.prog 205 = true := by kernel_rfl
theorem pl206 : plainFn Try.prog 206 = true := by kernel_rfl
theorem pl207 : plainFn Try.prog 207 = true := by kernel_rfl
theorem pl208 : plainFn Try.prog 208 = true := by kernel_rfl
theorem pl209 : plainFn Try.prog 209 = true := by kernel_rfl
theorem pl210 : plainFn Try.prog 210 = true := by kernel_rfl
theorem pl212 : plainFn Try.prog 212 = true := by kernel_rfl
theorem pl215 : plainFn Try.prog 215 = true := by kernel_rfl
theorem pl216 : plainFn Try.prog 216 = true := by kernel_rfl
theorem pl217 : plainFn Try.prog 217 = true := by kernel_rfl
theorem pl218 : plainFn Try.prog 218 = true := by kernel_rfl
theorem pl219 : plainFn Try.prog 219 = true := by kernel_rfl
theorem pl220 : plainFn Try.prog 220 = true := by kernel_rfl
theorem pl221 : plainFn Try.prog 221 = true := by kernel_rfl
theorem pl222 : plainFn Try.prog 222 = true := by kernel_rfl
theorem pl223 : plainFn Try.prog 223 = true := by kernel_rfl
theorem pl224 : plainFn Try.prog 224 = true := by kernel_rfl
theorem pl225 : plainFn Try.prog 225 = true := by kernel_rfl
theorem pl23 : plainFn Try.prog 23 = true := by kernel_rfl
theorem pl24 : plainFn Try.prog 24 = true := by kernel_rfl
theorem pl25 : plainFn Try.prog 25 = true := by kernel_rfl
theorem pl26 : plainFn Try.prog 26 = true := by kernel_rfl
theorem pl27 : plainFn Try.prog 27 = true := by kernel_rfl
theorem pl28 : plainFn Try.prog 28 = true := by kernel_rfl
theorem pl30 : plainFn Try.prog 30 = true := by kernel_rfl
theorem pl31 : plainFn Try.prog 31 = true := by kernel_rfl
theorem pl32 : plainFn Try.prog 32 = true := by kernel_rfl
theorem pl33 : plainFn Try.prog 33 = true := by kernel_rfl
theorem pl34 : plainFn Try.prog 34 = true := by kernel_rfl
theorem pl35 : plainFn Try.prog 35 = true := by kernel_rfl
theorem pl36 : plainFn Try.prog 36 = true := by kernel_rfl
theorem pl37 : plainFn Try.prog 37 = true := by kernel_rfl
theorem pl38 : plainFn Try.prog 38 = true := by kernel_rfl
theorem pl41 : plainFn Try.prog 41 = true := by kernel_rfl
theorem pl53 : plainFn Try.prog 53 = true := by kernel_rfl
theorem pl55 : plainFn Try.prog 55 = true := by kernel_rfl
theorem pl57 : plainFn Try.prog 57 = true := by kernel_rfl
theorem pl64 : plainFn Try.prog 64 = true := by kernel_rfl
theorem pl68 : plainFn Try.prog 68 = true := by kernel_rfl
theorem pl70 : plainFn Try.prog 70 = true := by kernel_rfl
theorem pl72 : plainFn Try.prog 72 = true := by kernel_rfl
theorem pl76 : plainFn Try.prog 76 = true := by kernel_rfl
theorem pl77 : plainFn Try.prog 77 = true := by kernel_rfl
theorem pl78 : plainFn Try.prog 78 = true := by kernel_rfl
theorem pl79 : plainFn Try.prog 79 = true := by kernel_rfl
theorem pl80 : plainFn Try.prog 80 = true := by kernel_rfl
theorem pl81 : plainFn Try.prog 81 = true := by kernel_rfl
theorem pl82 : plainFn Try.prog 82 = true := by kernel_rfl
theorem pl85 : plainFn Try.prog 85 = true := by kernel_rfl
theorem pl86 : plainFn Try.prog 86 = true := by kernel_rfl
theorem pl87 : plainFn Try.prog 87 = true := by kernel_rfl
theorem pl88 : plainFn Try.prog 88 = true := by kernel_rfl
theorem pl89 : plainFn Try.prog 89 = true := by kernel_rfl
theorem pl90 : plainFn Try.prog 90 = true := by kernel_rfl
theorem pl91 : plainFn Try.prog 91 = true := by kernel_rfl
theorem pl92 : plainFn Try.prog 92 = true := by kernel_rfl
theorem pl93 : plainFn Try.prog 93 = true := by kernel_rfl
theorem pl94 : plainFn Try.prog 94 = true := by kernel_rfl
theorem pl96 : plainFn Try.prog 96 = true := by kernel_rfl
theorem pl97 : plainFn Try.prog 97 = true := by kernel_rfl
theorem pl98 : plainFn Try.prog 98 = true := by kernel_rfl
theorem sT145 : SlT Try.prog 145 DMsg := SlT.of (b := 16) (by kernel_rfl) rfl
theorem sT32 : SlT Try.prog 32 DEntry := SlT.of (b := 72) (by kernel_rfl) rfl
theorem sT39 : SlT Try.prog 39 DBoot := SlT.of (b := 72) (by kernel_rfl) rfl
theorem sT47 : SlT Try.prog 47 Int := SlT.of (b := 8) (by kernel_rfl) rfl
theorem sT74 : SlT Try.prog 74 DPart := SlT.of (b := 224) (by kernel_rfl) rfl
theorem sT91 : SlT Try.prog 91 DRes := SlT.of (b := 40) (by kernel_rfl) rfl
theorem sT92 : SlT Try.prog 92 DObj := SlT.of (b := 152) (by kernel_rfl) rfl
theorem sT96 : SlT Try.prog 96 DTap := SlT.of (b := 48) (by kernel_rfl) rfl
theorem sz111 : szV Try.prog 111 = some 5 := by kernel_rfl
theorem sz116 : szV Try.prog 116 = some 5 := by kernel_rfl
theorem sz125 : szV Try.prog 125 = some 3 := by kernel_rfl
theorem sz147 : szV Try.prog 147 = some 13 := by kernel_rfl
theorem sz175 : szV Try.prog 175 = some 5 := by kernel_rfl
theorem sz177 : szV Try.prog 177 = some 6 := by kernel_rfl
theorem sz185 : szV Try.prog 185 = some 5 := by kernel_rfl
theorem sz189 : szV Try.prog 189 = some 6 := by kernel_rfl
theorem sz210 : szV Try.prog 210 = some 13 := by kernel_rfl
theorem sz217 : szV Try.prog 217 = some 2 := by kernel_rfl
theorem sz224 : szV Try.prog 224 = some 2 := by kernel_rfl
theorem sz3 : szV Try.prog 3 = some 1 := by kernel_rfl
theorem sz46 : szV Try.prog 46 = some 9 := by kernel_rfl
theorem sz54 : szV Try.prog 54 = some 9 := by kernel_rfl
theorem sz88 : szV Try.prog 88 = some 16 := by kernel_rfl
theorem sz9 : szV Try.prog 9 = some 1 := by kernel_rfl
theorem sz98 : szV Try.prog 98 = some 16 := by kernel_rfl
theorem zv116 : zeroV Try.prog 116 = some (.agg #[.slice none 0 0, .slice none 0 0, .int .i64 0, .int .i64 0, .int .i64 0]) := by kernel_rfl
theorem zv147 : zeroV Try.prog 147 = some (.agg #[.int .i64 0, .int .i64 0, .int .i64 0, .int .i64 0, .int .i64 0, .int .i64 0, .int .i64 0, .int .i64 0, .int .i64 0, .bool false, .slice none 0 0, .slice none 0 0, .slice none 0 0]) := by kernel_rfl
theorem zv175 : zeroV Try.prog 175 = some (.agg #[.bool false, .int .i64 0, .int .i64 0, .int .i64 0, .int .i64 0]) := by kernel_rfl
theorem zv177 : zeroV Try.prog 177 = some (.agg #[.int .i64 0, .int .i64 0, .int .i64 0, .int .i64 0, .int .i64 0, .int .i64 0]) := by kernel_rfl
theorem zv217 : zeroV Try.prog 217 = some (.agg #[.int .i64 0, .int .i64 0]) := by kernel_rfl
theorem zv52 : zeroV Try.prog 52 = some (.agg #[.int .i64 0, .int .i64 0, .int .i64 0, .int .i64 0, .int .i64 0, .int .i64 0]) := by kernel_rfl
theorem zv54 : zeroV Try.prog 54 = some (.agg #[.int .i64 0, .int .i64 0, .int .i64 0, .int .i64 0, .int .i64 0, .int .i64 0, .int .i64 0, .int .i64 0, .int .i64 0]) := by kernel_rfl
theorem zv56 : zeroV Try.prog 56 = some (.agg #[.slice none 0 0]) := by kernel_rfl
theorem zv61 : zeroV Try.prog 61 = some (.agg #[.int .i64 0, .int .i64 0, .int .i64 0]) := by kernel_rfl
theorem zv76 : zeroV Try.prog 76 = some (.agg #[.int .i64 0, .slice none 0 0]) := by kernel_rfl
theorem zv93 : zeroV Try.prog 93 = some (.agg #[.int .i64 0, .int .i64 0, .int .i64 0, .slice none 0 0]) := by kernel_rfl
theorem zv95 : zeroV Try.prog 95 = some (.agg #[.slice none 0 0, .int .i64 0, .int .i64 0, .int .i64 0, .slice none 0 0]) := by kernel_rfl
theorem zv98 : zeroV Try.prog 98 = some (.agg #[.slice none 0 0, .slice none 0 0, .slice none 0 0, .slice none 0 0, .int .i64 0, .int .i64 0, .int .i64 0, .slice none 0 0, .slice none 0 0, .int .i64 0, .int .i64 0, .int .i64 0, .int .i64 0, .int .i64 0, .int .i64 0, .int .i64 0]) := by kernel_rfl
end Go.Kx
