/- Closed facts of the program's types and functions. Printed by drive.py. -/
import Derived.Test.YtfllimolhpblnaaGreatProg
import Derived.Test.YtfllimolhpblnaaGreatGo
import Derived.Test.YtfllimolhpblnaaGreatDat
namespace Go.Kx
open Go Go.RowKit Go.Proofs
set_option maxRecDepth 10000
set_option maxHeartbeats 2000000
set_option linter.unusedVariables false
set_option linter.unusedSimpArgs false
theorem ag127 : aggV Tryz.prog 127 = some (some 1) := by kernel_rfl
theorem ag131 : aggV Tryz.prog 131 = some (some 6) := by kernel_rfl
theorem ag152 : aggV Tryz.prog 152 = some (some 5) := by kernel_rfl
theorem ag155 : aggV Tryz.prog 155 = some (some 5) := by kernel_rfl
theorem ag159 : aggV Tryz.prog 159 = some (some 6) := by kernel_rfl
theorem ag184 : aggV Tryz.prog 184 = some none := by kernel_rfl
theorem ag186 : aggV Tryz.prog 186 = some (some 13) := by kernel_rfl
theorem ag194 : aggV Tryz.prog 194 = some (some 2) := by kernel_rfl
theorem ag200 : aggV Tryz.prog 200 = some (some 2) := by kernel_rfl
theorem ag22 : aggV Tryz.prog 22 = some none := by kernel_rfl
theorem ag24 : aggV Tryz.prog 24 = some (some 2) := by kernel_rfl
theorem ag26 : aggV Tryz.prog 26 = some (some 6) := by kernel_rfl
theorem ag28 : aggV Tryz.prog 28 = some none := by kernel_rfl
theorem ag3 : aggV Tryz.prog 3 = some none := by kernel_rfl
theorem ag30 : aggV Tryz.prog 30 = some none := by kernel_rfl
theorem ag32 : aggV Tryz.prog 32 = some (some 2) := by kernel_rfl
theorem ag34 : aggV Tryz.prog 34 = some (some 6) := by kernel_rfl
theorem ag4 : aggV Tryz.prog 4 = some none := by kernel_rfl
theorem ag44 : aggV Tryz.prog 44 = some (some 1) := by kernel_rfl
theorem ag45 : aggV Tryz.prog 45 = some none := by kernel_rfl
theorem ag46 : aggV Tryz.prog 46 = some none := by kernel_rfl
theorem ag48 : aggV Tryz.prog 48 = some (some 4) := by kernel_rfl
theorem ag50 : aggV Tryz.prog 50 = some (some 5) := by kernel_rfl
theorem ag51 : aggV Tryz.prog 51 = some none := by kernel_rfl
theorem ag53 : aggV Tryz.prog 53 = some (some 3) := by kernel_rfl
theorem ag55 : aggV Tryz.prog 55 = some (some 16) := by kernel_rfl
theorem ag57 : aggV Tryz.prog 57 = some (some 1) := by kernel_rfl
theorem ag58 : aggV Tryz.prog 58 = some none := by kernel_rfl
theorem ag59 : aggV Tryz.prog 59 = some none := by kernel_rfl
theorem ag60 : aggV Tryz.prog 60 = some (some 4) := by kernel_rfl
theorem ag62 : aggV Tryz.prog 62 = some (some 5) := by kernel_rfl
theorem ag63 : aggV Tryz.prog 63 = some none := by kernel_rfl
theorem ag64 : aggV Tryz.prog 64 = some (some 3) := by kernel_rfl
theorem ag66 : aggV Tryz.prog 66 = some (some 16) := by kernel_rfl
theorem ag90 : aggV Tryz.prog 90 = some none := by kernel_rfl
theorem ag92 : aggV Tryz.prog 92 = some (some 13) := by kernel_rfl
theorem eg152 : Program.eqGuardType Tryz.prog Tryz.prog.depth 152 = false := by kernel_rfl
theorem eg194 : Program.eqGuardType Tryz.prog Tryz.prog.depth 194 = false := by kernel_rfl
theorem eq152 : ∀ (a b : DRes) (w : World), (Op.equalIn 10000 152 (.agg #[.bool a.live, .int .i64 a.parent, .int .i64 a.bal.pages, .int .i64 a.bal.rent, .int .i64 a.bal.cpu]) (.agg #[.bool b.live, .int .i64 b.parent, .int .i64 b.bal.pages, .int .i64 b.bal.rent, .int .i64 b.bal.cpu])).run Tryz.prog w = .ok (decide (a = b)) w := fun a b w => EqT.top (n := 2) (EqT.agg (n := 1) Tryz.underlying152 (by kernel_rfl) (EqF.one rfl ag4 rfl rfl (EqT.bool Tryz.underlying4) (EqF.one rfl ag3 rfl rfl (EqT.int Tryz.underlying3) (EqF.more rfl ag64 (EqT.agg (n := 0) Tryz.underlying64 (by kernel_rfl) (EqF.one rfl ag3 rfl rfl (EqT.int Tryz.underlying3) (EqF.one rfl ag3 rfl rfl (EqT.int Tryz.underlying3) (EqF.one rfl ag3 rfl rfl (EqT.int Tryz.underlying3) EqF.nil)))) EqF.nil)))) (by decide) (by
  obtain ⟨x0, x1, ⟨x2, x3, x4⟩⟩ := a
  obtain ⟨y0, y1, ⟨y2, y3, y4⟩⟩ := b
  simp [DRes.mk.injEq, DAmt.mk.injEq, Bool.beq_eq_decide_eq, Bool.decide_and]) w
theorem eq194 : ∀ (a b : DMsg) (w : World), (Op.equalIn 10000 194 (.agg #[.int .i64 a.src, .int .i64 a.n]) (.agg #[.int .i64 b.src, .int .i64 b.n])).run Tryz.prog w = .ok (decide (a = b)) w := fun a b w => EqT.top (n := 1) (EqT.agg (n := 0) Tryz.underlying194 (by kernel_rfl) (EqF.one rfl ag3 rfl rfl (EqT.int Tryz.underlying3) (EqF.one rfl ag3 rfl rfl (EqT.int Tryz.underlying3) EqF.nil))) (by decide) (by
  obtain ⟨x0, x1⟩ := a
  obtain ⟨y0, y1⟩ := b
  simp [DMsg.mk.injEq, Bool.beq_eq_decide_eq, Bool.decide_and]) w
theorem fo127_0 : fo Tryz.prog 127 0 = some (0, none) := by kernel_rfl
theorem fo131_0 : fo Tryz.prog 131 0 = some (0, none) := by kernel_rfl
theorem fo131_1 : fo Tryz.prog 131 1 = some (1, none) := by kernel_rfl
theorem fo131_2 : fo Tryz.prog 131 2 = some (2, none) := by kernel_rfl
theorem fo131_3 : fo Tryz.prog 131 3 = some (3, none) := by kernel_rfl
theorem fo131_4 : fo Tryz.prog 131 4 = some (4, none) := by kernel_rfl
theorem fo131_5 : fo Tryz.prog 131 5 = some (5, none) := by kernel_rfl
theorem fo152_0 : fo Tryz.prog 152 0 = some (0, none) := by kernel_rfl
theorem fo152_1 : fo Tryz.prog 152 1 = some (1, none) := by kernel_rfl
theorem fo152_2 : fo Tryz.prog 152 2 = some (2, some 3) := by kernel_rfl
theorem fo155_0 : fo Tryz.prog 155 0 = some (0, none) := by kernel_rfl
theorem fo155_1 : fo Tryz.prog 155 1 = some (1, none) := by kernel_rfl
theorem fo155_2 : fo Tryz.prog 155 2 = some (2, some 3) := by kernel_rfl
theorem fo159_0 : fo Tryz.prog 159 0 = some (0, none) := by kernel_rfl
theorem fo159_1 : fo Tryz.prog 159 1 = some (1, none) := by kernel_rfl
theorem fo159_2 : fo Tryz.prog 159 2 = some (2, none) := by kernel_rfl
theorem fo159_3 : fo Tryz.prog 159 3 = some (3, none) := by kernel_rfl
theorem fo159_4 : fo Tryz.prog 159 4 = some (4, none) := by kernel_rfl
theorem fo159_5 : fo Tryz.prog 159 5 = some (5, none) := by kernel_rfl
theorem fo186_0 : fo Tryz.prog 186 0 = some (0, none) := by kernel_rfl
theorem fo186_1 : fo Tryz.prog 186 1 = some (1, none) := by kernel_rfl
theorem fo186_10 : fo Tryz.prog 186 10 = some (10, none) := by kernel_rfl
theorem fo186_11 : fo Tryz.prog 186 11 = some (11, none) := by kernel_rfl
theorem fo186_12 : fo Tryz.prog 186 12 = some (12, none) := by kernel_rfl
theorem fo186_2 : fo Tryz.prog 186 2 = some (2, none) := by kernel_rfl
theorem fo186_3 : fo Tryz.prog 186 3 = some (3, none) := by kernel_rfl
theorem fo186_4 : fo Tryz.prog 186 4 = some (4, none) := by kernel_rfl
theorem fo186_5 : fo Tryz.prog 186 5 = some (5, none) := by kernel_rfl
theorem fo186_6 : fo Tryz.prog 186 6 = some (6, none) := by kernel_rfl
theorem fo186_7 : fo Tryz.prog 186 7 = some (7, none) := by kernel_rfl
theorem fo186_8 : fo Tryz.prog 186 8 = some (8, none) := by kernel_rfl
theorem fo186_9 : fo Tryz.prog 186 9 = some (9, none) := by kernel_rfl
theorem fo194_0 : fo Tryz.prog 194 0 = some (0, none) := by kernel_rfl
theorem fo194_1 : fo Tryz.prog 194 1 = some (1, none) := by kernel_rfl
theorem fo200_0 : fo Tryz.prog 200 0 = some (0, none) := by kernel_rfl
theorem fo200_1 : fo Tryz.prog 200 1 = some (1, none) := by kernel_rfl
theorem fo24_0 : fo Tryz.prog 24 0 = some (0, none) := by kernel_rfl
theorem fo24_1 : fo Tryz.prog 24 1 = some (1, none) := by kernel_rfl
theorem fo26_0 : fo Tryz.prog 26 0 = some (0, none) := by kernel_rfl
theorem fo26_1 : fo Tryz.prog 26 1 = some (1, none) := by kernel_rfl
theorem fo26_2 : fo Tryz.prog 26 2 = some (2, none) := by kernel_rfl
theorem fo26_3 : fo Tryz.prog 26 3 = some (3, none) := by kernel_rfl
theorem fo26_4 : fo Tryz.prog 26 4 = some (4, none) := by kernel_rfl
theorem fo26_5 : fo Tryz.prog 26 5 = some (5, none) := by kernel_rfl
theorem fo32_0 : fo Tryz.prog 32 0 = some (0, none) := by kernel_rfl
theorem fo32_1 : fo Tryz.prog 32 1 = some (1, none) := by kernel_rfl
theorem fo34_0 : fo Tryz.prog 34 0 = some (0, none) := by kernel_rfl
theorem fo34_1 : fo Tryz.prog 34 1 = some (1, none) := by kernel_rfl
theorem fo34_2 : fo Tryz.prog 34 2 = some (2, none) := by kernel_rfl
theorem fo34_3 : fo Tryz.prog 34 3 = some (3, none) := by kernel_rfl
theorem fo34_4 : fo Tryz.prog 34 4 = some (4, none) := by kernel_rfl
theorem fo34_5 : fo Tryz.prog 34 5 = some (5, none) := by kernel_rfl
theorem fo44_0 : fo Tryz.prog 44 0 = some (0, none) := by kernel_rfl
theorem fo48_0 : fo Tryz.prog 48 0 = some (0, none) := by kernel_rfl
theorem fo48_1 : fo Tryz.prog 48 1 = some (1, none) := by kernel_rfl
theorem fo48_2 : fo Tryz.prog 48 2 = some (2, none) := by kernel_rfl
theorem fo48_3 : fo Tryz.prog 48 3 = some (3, none) := by kernel_rfl
theorem fo50_0 : fo Tryz.prog 50 0 = some (0, none) := by kernel_rfl
theorem fo50_1 : fo Tryz.prog 50 1 = some (1, some 4) := by kernel_rfl
theorem fo53_0 : fo Tryz.prog 53 0 = some (0, none) := by kernel_rfl
theorem fo53_1 : fo Tryz.prog 53 1 = some (1, none) := by kernel_rfl
theorem fo53_2 : fo Tryz.prog 53 2 = some (2, none) := by kernel_rfl
theorem fo55_0 : fo Tryz.prog 55 0 = some (0, some 1) := by kernel_rfl
theorem fo55_1 : fo Tryz.prog 55 1 = some (1, none) := by kernel_rfl
theorem fo55_2 : fo Tryz.prog 55 2 = some (2, none) := by kernel_rfl
theorem fo55_3 : fo Tryz.prog 55 3 = some (3, some 5) := by kernel_rfl
theorem fo55_4 : fo Tryz.prog 55 4 = some (8, none) := by kernel_rfl
theorem fo55_5 : fo Tryz.prog 55 5 = some (9, none) := by kernel_rfl
theorem fo55_6 : fo Tryz.prog 55 6 = some (10, none) := by kernel_rfl
theorem fo55_7 : fo Tryz.prog 55 7 = some (11, some 3) := by kernel_rfl
theorem fo55_8 : fo Tryz.prog 55 8 = some (14, none) := by kernel_rfl
theorem fo55_9 : fo Tryz.prog 55 9 = some (15, none) := by kernel_rfl
theorem fo57_0 : fo Tryz.prog 57 0 = some (0, none) := by kernel_rfl
theorem fo60_0 : fo Tryz.prog 60 0 = some (0, none) := by kernel_rfl
theorem fo60_1 : fo Tryz.prog 60 1 = some (1, none) := by kernel_rfl
theorem fo60_2 : fo Tryz.prog 60 2 = some (2, none) := by kernel_rfl
theorem fo60_3 : fo Tryz.prog 60 3 = some (3, none) := by kernel_rfl
theorem fo62_0 : fo Tryz.prog 62 0 = some (0, none) := by kernel_rfl
theorem fo62_1 : fo Tryz.prog 62 1 = some (1, some 4) := by kernel_rfl
theorem fo64_0 : fo Tryz.prog 64 0 = some (0, none) := by kernel_rfl
theorem fo64_1 : fo Tryz.prog 64 1 = some (1, none) := by kernel_rfl
theorem fo64_2 : fo Tryz.prog 64 2 = some (2, none) := by kernel_rfl
theorem fo66_0 : fo Tryz.prog 66 0 = some (0, some 1) := by kernel_rfl
theorem fo66_1 : fo Tryz.prog 66 1 = some (1, none) := by kernel_rfl
theorem fo66_2 : fo Tryz.prog 66 2 = some (2, none) := by kernel_rfl
theorem fo66_3 : fo Tryz.prog 66 3 = some (3, some 5) := by kernel_rfl
theorem fo66_4 : fo Tryz.prog 66 4 = some (8, none) := by kernel_rfl
theorem fo66_5 : fo Tryz.prog 66 5 = some (9, none) := by kernel_rfl
theorem fo66_6 : fo Tryz.prog 66 6 = some (10, none) := by kernel_rfl
theorem fo66_7 : fo Tryz.prog 66 7 = some (11, some 3) := by kernel_rfl
theorem fo66_8 : fo Tryz.prog 66 8 = some (14, none) := by kernel_rfl
theorem fo66_9 : fo Tryz.prog 66 9 = some (15, none) := by kernel_rfl
theorem fo92_0 : fo Tryz.prog 92 0 = some (0, none) := by kernel_rfl
theorem fo92_1 : fo Tryz.prog 92 1 = some (1, none) := by kernel_rfl
theorem fo92_10 : fo Tryz.prog 92 10 = some (10, none) := by kernel_rfl
theorem fo92_11 : fo Tryz.prog 92 11 = some (11, none) := by kernel_rfl
theorem fo92_12 : fo Tryz.prog 92 12 = some (12, none) := by kernel_rfl
theorem fo92_2 : fo Tryz.prog 92 2 = some (2, none) := by kernel_rfl
theorem fo92_3 : fo Tryz.prog 92 3 = some (3, none) := by kernel_rfl
theorem fo92_4 : fo Tryz.prog 92 4 = some (4, none) := by kernel_rfl
theorem fo92_5 : fo Tryz.prog 92 5 = some (5, none) := by kernel_rfl
theorem fo92_6 : fo Tryz.prog 92 6 = some (6, none) := by kernel_rfl
theorem fo92_7 : fo Tryz.prog 92 7 = some (7, none) := by kernel_rfl
theorem fo92_8 : fo Tryz.prog 92 8 = some (8, none) := by kernel_rfl
theorem fo92_9 : fo Tryz.prog 92 9 = some (9, none) := by kernel_rfl
theorem pl10 : plainFn Tryz.prog 10 = true := by kernel_rfl
theorem pl100 : plainFn Tryz.prog 100 = true := by kernel_rfl
theorem pl101 : plainFn Tryz.prog 101 = true := by kernel_rfl
theorem pl104 : plainFn Tryz.prog 104 = true := by kernel_rfl
theorem pl107 : plainFn Tryz.prog 107 = true := by kernel_rfl
theorem pl108 : plainFn Tryz.prog 108 = true := by kernel_rfl
theorem pl109 : plainFn Tryz.prog 109 = true := by kernel_rfl
theorem pl11 : plainFn Tryz.prog 11 = true := by kernel_rfl
theorem pl110 : plainFn Tryz.prog 110 = true := by kernel_rfl
theorem pl111 : plainFn Tryz.prog 111 = true := by kernel_rfl
theorem pl112 : plainFn Tryz.prog 112 = true := by kernel_rfl
theorem pl113 : plainFn Tryz.prog 113 = true := by kernel_rfl
theorem pl114 : plainFn Tryz.prog 114 = true := by kernel_rfl
theorem pl115 : plainFn Tryz.prog 115 = true := by kernel_rfl
theorem pl116 : plainFn Tryz.prog 116 = true := by kernel_rfl
theorem pl117 : plainFn Tryz.prog 117 = true := by kernel_rfl
theorem pl118 : plainFn Tryz.prog 118 = true := by kernel_rfl
theorem pl119 : plainFn Tryz.prog 119 = true := by kernel_rfl
theorem pl12 : plainFn Tryz.prog 12 = true := by kernel_rfl
theorem pl120 : plainFn Tryz.prog 120 = true := by kernel_rfl
theorem pl121 : plainFn Tryz.prog 121 = true := by kernel_rfl
theorem pl122 : plainFn Tryz.prog 122 = true := by kernel_rfl
theorem pl123 : plainFn Tryz.prog 123 = true := by kernel_rfl
theorem pl124 : plainFn Tryz.prog 124 = true := by kernel_rfl
theorem pl125 : plainFn Tryz.prog 125 = true := by kernel_rfl
theorem pl126 : plainFn Tryz.prog 126 = true := by kernel_rfl
theorem pl127 : plainFn Tryz.prog 127 = true := by kernel_rfl
theorem pl128 : plainFn Tryz.prog 128 = true := by kernel_rfl
theorem pl129 : plainFn Tryz.prog 129 = true := by kernel_rfl
theorem pl13 : plainFn Tryz.prog 13 = true := by kernel_rfl
theorem pl130 : plainFn Tryz.prog 130 = true := by kernel_rfl
theorem pl131 : plainFn Tryz.prog 131 = true := by kernel_rfl
theorem pl132 : plainFn Tryz.prog 132 = true := by kernel_rfl
theorem pl133 : plainFn Tryz.prog 133 = true := by kernel_rfl
theorem pl134 : plainFn Tryz.prog 134 = true := by kernel_rfl
theorem pl135 : plainFn Tryz.prog 135 = true := by kernel_rfl
theorem pl136 : plainFn Tryz.prog 136 = true := by kernel_rfl
theorem pl137 : plainFn Tryz.prog 137 = true := by kernel_rfl
theorem pl138 : plainFn Tryz.prog 138 = true := by kernel_rfl
theorem pl139 : plainFn Tryz.prog 139 = true := by kernel_rfl
theorem pl14 : plainFn Tryz.prog 14 = true := by kernel_rfl
theorem pl140 : plainFn Tryz.prog 140 = true := by kernel_rfl
theorem pl141 : plainFn Tryz.prog 141 = true := by kernel_rfl
theorem pl142 : plainFn Tryz.prog 142 = true := by kernel_rfl
theorem pl143 : plainFn Tryz.prog 143 = true := by kernel_rfl
theorem pl144 : plainFn Tryz.prog 144 = true := by kernel_rfl
theorem pl145 : plainFn Tryz.prog 145 = true := by kernel_rfl
theorem pl146 : plainFn Tryz.prog 146 = true := by kernel_rfl
theorem pl147 : plainFn Tryz.prog 147 = true := by kernel_rfl
theorem pl148 : plainFn Tryz.prog 148 = true := by kernel_rfl
theorem pl149 : plainFn Tryz.prog 149 = true := by kernel_rfl
theorem pl15 : plainFn Tryz.prog 15 = true := by kernel_rfl
theorem pl150 : plainFn Tryz.prog 150 = true := by kernel_rfl
theorem pl151 : plainFn Tryz.prog 151 = true := by kernel_rfl
theorem pl152 : plainFn Tryz.prog 152 = true := by kernel_rfl
theorem pl153 : plainFn Tryz.prog 153 = true := by kernel_rfl
theorem pl154 : plainFn Tryz.prog 154 = true := by kernel_rfl
theorem pl155 : plainFn Tryz.prog 155 = true := by kernel_rfl
theorem pl156 : plainFn Tryz.prog 156 = true := by kernel_rfl
theorem pl157 : plainFn Tryz.prog 157 = true := by kernel_rfl
theorem pl158 : plainFn Tryz.prog 158 = true := by kernel_rfl
theorem pl159 : plainFn Tryz.prog 159 = true := by kernel_rfl
theorem pl16 : plainFn Tryz.prog 16 = true := by kernel_rfl
theorem pl160 : plainFn Tryz.prog 160 = true := by kernel_rfl
theorem pl161 : plainFn Tryz.prog 161 = true := by kernel_rfl
theorem pl162 : plainFn Tryz.prog 162 = true := by kernel_rfl
theorem pl163 : plainFn Tryz.prog 163 = true := by kernel_rfl
theorem pl164 : plainFn Tryz.prog 164 = true := by kernel_rfl
theorem pl165 : plainFn Tryz.prog 165 = true := by kernel_rfl
theorem pl166 : plainFn Tryz.prog 166 = true := by kernel_rfl
theorem pl167 : plainFn Tryz.prog 167 = true := by kernel_rfl
theorem pl168 : plainFn Tryz.prog 168 = true := by kernel_rfl
theorem pl169 : plainFn Tryz.prog 169 = true := by kernel_rfl
theorem pl17 : plainFn Tryz.prog 17 = true := by kernel_rfl
theorem pl170 : plainFn Tryz.prog 170 = true := by kernel_rfl
theorem pl171 : plainFn Tryz.prog 171 = true := by kernel_rfl
theorem pl172 : plainFn Tryz.prog 172 = true := by kernel_rfl
theorem pl173 : plainFn Tryz.prog 173 = true := by kernel_rfl
theorem pl174 : plainFn Tryz.prog 174 = true := by kernel_rfl
theorem pl175 : plainFn Tryz.prog 175 = true := by kernel_rfl
theorem pl176 : plainFn Tryz.prog 176 = true := by kernel_rfl
theorem pl177 : plainFn Tryz.prog 177 = true := by kernel_rfl
theorem pl178 : plainFn Tryz.prog 178 = true := by kernel_rfl
theorem pl179 : plainFn Tryz.prog 179 = true := by kernel_rfl
theorem pl18 : plainFn Tryz.prog 18 = true := by kernel_rfl
theorem pl180 : plainFn Tryz.prog 180 = true := by kernel_rfl
theorem pl181 : plainFn Tryz.prog 181 = true := by kernel_rfl
theorem pl182 : plainFn Tryz.prog 182 = true := by kernel_rfl
theorem pl183 : plainFn Tryz.prog 183 = true := by kernel_rfl
theorem pl184 : plainFn Tryz.prog 184 = true := by kernel_rfl
theorem pl185 : plainFn Tryz.prog 185 = true := by kernel_rfl
theorem pl186 : plainFn Tryz.prog 186 = true := by kernel_rfl
theorem pl187 : plainFn Tryz.prog 187 = true := by kernel_rfl
theorem pl188 : plainFn Tryz.prog 188 = true := by kernel_rfl
theorem pl189 : plainFn Tryz.prog 189 = true := by kernel_rfl
theorem pl19 : plainFn Tryz.prog 19 = true := by kernel_rfl
theorem pl190 : plainFn Tryz.prog 190 = true := by kernel_rfl
theorem pl191 : plainFn Tryz.prog 191 = true := by kernel_rfl
theorem pl192 : plainFn Tryz.prog 192 = true := by kernel_rfl
theorem pl193 : plainFn Tryz.prog 193 = true := by kernel_rfl
theorem pl194 : plainFn Tryz.prog 194 = true := by kernel_rfl
theorem pl195 : plainFn Tryz.prog 195 = true := by kernel_rfl
theorem pl196 : plainFn Tryz.prog 196 = true := by kernel_rfl
theorem pl197 : plainFn Tryz.prog 197 = true := by kernel_rfl
theorem pl198 : plainFn Tryz.prog 198 = true := by kernel_rfl
theorem pl199 : plainFn Tryz.prog 199 = true := by kernel_rfl
theorem pl20 : plainFn Tryz.prog 20 = true := by kernel_rfl
theorem pl200 : plainFn Tryz.prog 200 = true := by kernel_rfl
theorem pl201 : plainFn Tryz.prog 201 = true := by kernel_rfl
theorem pl202 : plainFn Tryz.prog 202 = true := by kernel_rfl
theorem pl203 : plainFn Tryz.prog 203 = true := by kernel_rfl
theorem pl204 : plainFn Tryz.prog 204 = true := by kernel_rfl
theorem pl205 : plainFn Tryz.prog 205 = true := by kernel_rfl
theorem pl206 : plainFn Tryz.prog 206 = true := by kernel_rfl
theorem pl207 : plainFn Tryz.prog 207 = true := by kernel_rfl
theorem pl208 : plainFn Tryz.prog 208 = true := by kernel_rfl
theorem pl209 : plainFn Tryz.prog 209 = true := by kernel_rfl
theorem pl21 : plainFn Tryz.prog 21 = true := by kernel_rfl
theorem pl210 : plainFn Tryz.prog 210 = true := by kernel_rfl
theorem pl211 : plainFn Tryz.prog 211 = true := by kernel_rfl
theorem pl212 : plainFn Tryz.prog 212 = true := by kernel_rfl
theorem pl213 : plainFn Tryz.prog 213 = true := by kernel_rfl
theorem pl214 : plainFn Tryz.prog 214 = true := by kernel_rfl
theorem pl215 : plainFn Tryz.prog 215 = true := by kernel_rfl
theorem pl216 : plainFn Tryz.prog 216 = true := by kernel_rfl
theorem pl217 : plainFn Tryz.prog 217 = true := by kernel_rfl
theorem pl218 : plainFn Tryz.prog 218 = true := by kernel_rfl
theorem pl219 : plainFn Tryz.prog 219 = true := by kernel_rfl
theorem pl22 : plainFn Tryz.prog 22 = true := by kernel_rfl
theorem pl220 : plainFn Tryz.prog 220 = true := by kernel_rfl
theorem pl221 : plainFn Tryz.prog 221 = true := by kernel_rfl
theorem pl23 : plainFn Tryz.prog 23 = true := by kernel_rfl
theorem pl24 : plainFn Tryz.prog 24 = true := by kernel_rfl
theorem pl25 : plainFn Tryz.prog 25 = true := by kernel_rfl
theorem pl26 : plainFn Tryz.prog 26 = true := by kernel_rfl
theorem pl27 : plainFn Tryz.prog 27 = true := by kernel_rfl
theorem pl28 : plainFn Tryz.prog 28 = true := by kernel_rfl
theorem pl29 : plainFn Tryz.prog 29 = true := by kernel_rfl
theorem pl30 : plainFn Tryz.prog 30 = true := by kernel_rfl
theorem pl31 : plainFn Tryz.prog 31 = true := by kernel_rfl
theorem pl32 : plainFn Tryz.prog 32 = true := by kernel_rfl
theorem pl33 : plainFn Tryz.prog 33 = true := by kernel_rfl
theorem pl34 : plainFn Tryz.prog 34 = true := by kernel_rfl
theorem pl38 : plainFn Tryz.prog 38 = true := by kernel_rfl
theorem pl39 : plainFn Tryz.prog 39 = true := by kernel_rfl
theorem pl40 : plainFn Tryz.prog 40 = true := by kernel_rfl
theorem pl41 : plainFn Tryz.prog 41 = true := by kernel_rfl
theorem pl42 : plainFn Tryz.prog 42 = true := by kernel_rfl
theorem pl43 : plainFn Tryz.prog 43 = true := by kernel_rfl
theorem pl44 : plainFn Tryz.prog 44 = true := by kernel_rfl
theorem pl45 : plainFn Tryz.prog 45 = true := by kernel_rfl
theorem pl46 : plainFn Tryz.prog 46 = true := by kernel_rfl
theorem pl47 : plainFn Tryz.prog 47 = true := by kernel_rfl
theorem pl48 : plainFn Tryz.prog 48 = true := by kernel_rfl
theorem pl49 : plainFn Tryz.prog 49 = true := by kernel_rfl
theorem pl50 : plainFn Tryz.prog 50 = true := by kernel_rfl
theorem pl51 : plainFn Tryz.prog 51 = true := by kernel_rfl
theorem pl52 : plainFn Tryz.prog 52 = true := by kernel_rfl
theorem pl53 : plainFn Tryz.prog 53 = true := by kernel_rfl
theorem pl54 : plainFn Tryz.prog 54 = true := by kernel_rfl
theorem pl55 : plainFn Tryz.prog 55 = true := by kernel_rfl
theorem pl56 : plainFn Tryz.prog 56 = true := by kernel_rfl
theorem pl57 : plainFn Tryz.prog 57 = true := by kernel_rfl
theorem pl58 : plainFn Tryz.prog 58 = true := by kernel_rfl
theorem pl59 : plainFn Tryz.prog 59 = true := by kernel_rfl
theorem pl60 : plainFn Tryz.prog 60 = true := by kernel_rfl
theorem pl61 : plainFn Tryz.prog 61 = true := by kernel_rfl
theorem pl62 : plainFn Tryz.prog 62 = true := by kernel_rfl
theorem pl63 : plainFn Tryz.prog 63 = true := by kernel_rfl
theorem pl64 : plainFn Tryz.prog 64 = true := by kernel_rfl
theorem pl65 : plainFn Tryz.prog 65 = true := by kernel_rfl
theorem pl66 : plainFn Tryz.prog 66 = true := by kernel_rfl
theorem pl67 : plainFn Tryz.prog 67 = true := by kernel_rfl
theorem pl68 : plainFn Tryz.prog 68 = true := by kernel_rfl
theorem pl69 : plainFn Tryz.prog 69 = true := by kernel_rfl
theorem pl70 : plainFn Tryz.prog 70 = true := by kernel_rfl
theorem pl71 : plainFn Tryz.prog 71 = true := by kernel_rfl
theorem pl72 : plainFn Tryz.prog 72 = true := by kernel_rfl
theorem pl73 : plainFn Tryz.prog 73 = true := by kernel_rfl
theorem pl74 : plainFn Tryz.prog 74 = true := by kernel_rfl
theorem pl75 : plainFn Tryz.prog 75 = true := by kernel_rfl
theorem pl76 : plainFn Tryz.prog 76 = true := by kernel_rfl
theorem pl77 : plainFn Tryz.prog 77 = true := by kernel_rfl
theorem pl78 : plainFn Tryz.prog 78 = true := by kernel_rfl
theorem pl79 : plainFn Tryz.prog 79 = true := by kernel_rfl
theorem pl80 : plainFn Tryz.prog 80 = true := by kernel_rfl
theorem pl81 : plainFn Tryz.prog 81 = true := by kernel_rfl
theorem pl82 : plainFn Tryz.prog 82 = true := by kernel_rfl
theorem pl83 : plainFn Tryz.prog 83 = true := by kernel_rfl
theorem pl84 : plainFn Tryz.prog 84 = true := by kernel_rfl
theorem pl85 : plainFn Tryz.prog 85 = true := by kernel_rfl
theorem pl86 : plainFn Tryz.prog 86 = true := by kernel_rfl
theorem pl87 : plainFn Tryz.prog 87 = true := by kernel_rfl
theorem pl88 : plainFn Tryz.prog 88 = true := by kernel_rfl
theorem pl89 : plainFn Tryz.prog 89 = true := by kernel_rfl
theorem pl90 : plainFn Tryz.prog 90 = true := by kernel_rfl
theorem pl91 : plainFn Tryz.prog 91 = true := by kernel_rfl
theorem pl92 : plainFn Tryz.prog 92 = true := by kernel_rfl
theorem pl93 : plainFn Tryz.prog 93 = true := by kernel_rfl
theorem pl94 : plainFn Tryz.prog 94 = true := by kernel_rfl
theorem pl95 : plainFn Tryz.prog 95 = true := by kernel_rfl
theorem pl96 : plainFn Tryz.prog 96 = true := by kernel_rfl
theorem pl97 : plainFn Tryz.prog 97 = true := by kernel_rfl
theorem pl98 : plainFn Tryz.prog 98 = true := by kernel_rfl
theorem pl99 : plainFn Tryz.prog 99 = true := by kernel_rfl
theorem sT125 : SlT Tryz.prog 125 DTree := SlT.of (b := 24) (by kernel_rfl) rfl
theorem sT140 : SlT Tryz.prog 140 Bool := SlT.of (b := 1) (by kernel_rfl) rfl
theorem sT28 : SlT Tryz.prog 28 Int := SlT.of (b := 8) (by kernel_rfl) rfl
theorem sT30 : SlT Tryz.prog 30 DPart := SlT.of (b := 224) (by kernel_rfl) rfl
theorem sT58 : SlT Tryz.prog 58 DRes := SlT.of (b := 40) (by kernel_rfl) rfl
theorem sT59 : SlT Tryz.prog 59 DObj := SlT.of (b := 152) (by kernel_rfl) rfl
theorem sT63 : SlT Tryz.prog 63 DTap := SlT.of (b := 48) (by kernel_rfl) rfl
theorem sT90 : SlT Tryz.prog 90 DMsg := SlT.of (b := 16) (by kernel_rfl) rfl
theorem sTP59 : SlT Tryz.prog 59 DObjP := SlT.of (b := 152) (by kernel_rfl) rfl
theorem sz127 : szV Tryz.prog 127 = some 1 := by kernel_rfl
theorem sz131 : szV Tryz.prog 131 = some 6 := by kernel_rfl
theorem sz152 : szV Tryz.prog 152 = some 5 := by kernel_rfl
theorem sz155 : szV Tryz.prog 155 = some 5 := by kernel_rfl
theorem sz159 : szV Tryz.prog 159 = some 6 := by kernel_rfl
theorem sz186 : szV Tryz.prog 186 = some 13 := by kernel_rfl
theorem sz194 : szV Tryz.prog 194 = some 2 := by kernel_rfl
theorem sz200 : szV Tryz.prog 200 = some 2 := by kernel_rfl
theorem sz3 : szV Tryz.prog 3 = some 1 := by kernel_rfl
theorem sz4 : szV Tryz.prog 4 = some 1 := by kernel_rfl
theorem sz55 : szV Tryz.prog 55 = some 16 := by kernel_rfl
theorem sz66 : szV Tryz.prog 66 = some 16 := by kernel_rfl
theorem sz92 : szV Tryz.prog 92 = some 13 := by kernel_rfl
theorem zv127 : zeroV Tryz.prog 127 = some (.agg #[.slice none 0 0]) := by kernel_rfl
theorem zv131 : zeroV Tryz.prog 131 = some (.agg #[.int .i64 0, .int .i64 0, .int .i64 0, .int .i64 0, .int .i64 0, .int .i64 0]) := by kernel_rfl
theorem zv152 : zeroV Tryz.prog 152 = some (.agg #[.bool false, .int .i64 0, .int .i64 0, .int .i64 0, .int .i64 0]) := by kernel_rfl
theorem zv194 : zeroV Tryz.prog 194 = some (.agg #[.int .i64 0, .int .i64 0]) := by kernel_rfl
theorem zv32 : zeroV Tryz.prog 32 = some (.agg #[.int .i64 0, .slice none 0 0]) := by kernel_rfl
theorem zv34 : zeroV Tryz.prog 34 = some (.agg #[.int .i64 0, .int .i64 0, .int .i64 0, .int .i64 0, .int .i64 0, .int .i64 0]) := by kernel_rfl
theorem zv57 : zeroV Tryz.prog 57 = some (.agg #[.slice none 0 0]) := by kernel_rfl
theorem zv60 : zeroV Tryz.prog 60 = some (.agg #[.int .i64 0, .int .i64 0, .int .i64 0, .slice none 0 0]) := by kernel_rfl
theorem zv62 : zeroV Tryz.prog 62 = some (.agg #[.slice none 0 0, .int .i64 0, .int .i64 0, .int .i64 0, .slice none 0 0]) := by kernel_rfl
theorem zv64 : zeroV Tryz.prog 64 = some (.agg #[.int .i64 0, .int .i64 0, .int .i64 0]) := by kernel_rfl
theorem zv66 : zeroV Tryz.prog 66 = some (.agg #[.slice none 0 0, .slice none 0 0, .slice none 0 0, .slice none 0 0, .int .i64 0, .int .i64 0, .int .i64 0, .slice none 0 0, .slice none 0 0, .int .i64 0, .int .i64 0, .int .i64 0, .int .i64 0, .int .i64 0, .int .i64 0, .int .i64 0]) := by kernel_rfl
theorem zv92 : zeroV Tryz.prog 92 = some (.agg #[.int .i64 0, .int .i64 0, .int .i64 0, .int .i64 0, .int .i64 0, .int .i64 0, .int .i64 0, .int .i64 0, .int .i64 0, .bool false, .slice none 0 0, .slice none 0 0, .slice none 0 0]) := by kernel_rfl
instance : AgC Tryz.prog 127 (some 1) := ⟨ag127⟩
instance : AgC Tryz.prog 131 (some 6) := ⟨ag131⟩
instance : AgC Tryz.prog 152 (some 5) := ⟨ag152⟩
instance : AgC Tryz.prog 155 (some 5) := ⟨ag155⟩
instance : AgC Tryz.prog 159 (some 6) := ⟨ag159⟩
instance : AgC Tryz.prog 184 none := ⟨ag184⟩
instance : AgC Tryz.prog 186 (some 13) := ⟨ag186⟩
instance : AgC Tryz.prog 194 (some 2) := ⟨ag194⟩
instance : AgC Tryz.prog 200 (some 2) := ⟨ag200⟩
instance : AgC Tryz.prog 22 none := ⟨ag22⟩
instance : AgC Tryz.prog 24 (some 2) := ⟨ag24⟩
instance : AgC Tryz.prog 26 (some 6) := ⟨ag26⟩
instance : AgC Tryz.prog 28 none := ⟨ag28⟩
instance : AgC Tryz.prog 3 none := ⟨ag3⟩
instance : AgC Tryz.prog 30 none := ⟨ag30⟩
instance : AgC Tryz.prog 32 (some 2) := ⟨ag32⟩
instance : AgC Tryz.prog 34 (some 6) := ⟨ag34⟩
instance : AgC Tryz.prog 4 none := ⟨ag4⟩
instance : AgC Tryz.prog 44 (some 1) := ⟨ag44⟩
instance : AgC Tryz.prog 45 none := ⟨ag45⟩
instance : AgC Tryz.prog 46 none := ⟨ag46⟩
instance : AgC Tryz.prog 48 (some 4) := ⟨ag48⟩
instance : AgC Tryz.prog 50 (some 5) := ⟨ag50⟩
instance : AgC Tryz.prog 51 none := ⟨ag51⟩
instance : AgC Tryz.prog 53 (some 3) := ⟨ag53⟩
instance : AgC Tryz.prog 55 (some 16) := ⟨ag55⟩
instance : AgC Tryz.prog 57 (some 1) := ⟨ag57⟩
instance : AgC Tryz.prog 58 none := ⟨ag58⟩
instance : AgC Tryz.prog 59 none := ⟨ag59⟩
instance : AgC Tryz.prog 60 (some 4) := ⟨ag60⟩
instance : AgC Tryz.prog 62 (some 5) := ⟨ag62⟩
instance : AgC Tryz.prog 63 none := ⟨ag63⟩
instance : AgC Tryz.prog 64 (some 3) := ⟨ag64⟩
instance : AgC Tryz.prog 66 (some 16) := ⟨ag66⟩
instance : AgC Tryz.prog 90 none := ⟨ag90⟩
instance : AgC Tryz.prog 92 (some 13) := ⟨ag92⟩
instance : FoC Tryz.prog 127 0 0 none := ⟨fo127_0⟩
instance : FoC Tryz.prog 131 0 0 none := ⟨fo131_0⟩
instance : FoC Tryz.prog 131 1 1 none := ⟨fo131_1⟩
instance : FoC Tryz.prog 131 2 2 none := ⟨fo131_2⟩
instance : FoC Tryz.prog 131 3 3 none := ⟨fo131_3⟩
instance : FoC Tryz.prog 131 4 4 none := ⟨fo131_4⟩
instance : FoC Tryz.prog 131 5 5 none := ⟨fo131_5⟩
instance : FoC Tryz.prog 152 0 0 none := ⟨fo152_0⟩
instance : FoC Tryz.prog 152 1 1 none := ⟨fo152_1⟩
instance : FoC Tryz.prog 152 2 2 (some 3) := ⟨fo152_2⟩
instance : FoC Tryz.prog 155 0 0 none := ⟨fo155_0⟩
instance : FoC Tryz.prog 155 1 1 none := ⟨fo155_1⟩
instance : FoC Tryz.prog 155 2 2 (some 3) := ⟨fo155_2⟩
instance : FoC Tryz.prog 159 0 0 none := ⟨fo159_0⟩
instance : FoC Tryz.prog 159 1 1 none := ⟨fo159_1⟩
instance : FoC Tryz.prog 159 2 2 none := ⟨fo159_2⟩
instance : FoC Tryz.prog 159 3 3 none := ⟨fo159_3⟩
instance : FoC Tryz.prog 159 4 4 none := ⟨fo159_4⟩
instance : FoC Tryz.prog 159 5 5 none := ⟨fo159_5⟩
instance : FoC Tryz.prog 186 0 0 none := ⟨fo186_0⟩
instance : FoC Tryz.prog 186 1 1 none := ⟨fo186_1⟩
instance : FoC Tryz.prog 186 10 10 none := ⟨fo186_10⟩
instance : FoC Tryz.prog 186 11 11 none := ⟨fo186_11⟩
instance : FoC Tryz.prog 186 12 12 none := ⟨fo186_12⟩
instance : FoC Tryz.prog 186 2 2 none := ⟨fo186_2⟩
instance : FoC Tryz.prog 186 3 3 none := ⟨fo186_3⟩
instance : FoC Tryz.prog 186 4 4 none := ⟨fo186_4⟩
instance : FoC Tryz.prog 186 5 5 none := ⟨fo186_5⟩
instance : FoC Tryz.prog 186 6 6 none := ⟨fo186_6⟩
instance : FoC Tryz.prog 186 7 7 none := ⟨fo186_7⟩
instance : FoC Tryz.prog 186 8 8 none := ⟨fo186_8⟩
instance : FoC Tryz.prog 186 9 9 none := ⟨fo186_9⟩
instance : FoC Tryz.prog 194 0 0 none := ⟨fo194_0⟩
instance : FoC Tryz.prog 194 1 1 none := ⟨fo194_1⟩
instance : FoC Tryz.prog 200 0 0 none := ⟨fo200_0⟩
instance : FoC Tryz.prog 200 1 1 none := ⟨fo200_1⟩
instance : FoC Tryz.prog 24 0 0 none := ⟨fo24_0⟩
instance : FoC Tryz.prog 24 1 1 none := ⟨fo24_1⟩
instance : FoC Tryz.prog 26 0 0 none := ⟨fo26_0⟩
instance : FoC Tryz.prog 26 1 1 none := ⟨fo26_1⟩
instance : FoC Tryz.prog 26 2 2 none := ⟨fo26_2⟩
instance : FoC Tryz.prog 26 3 3 none := ⟨fo26_3⟩
instance : FoC Tryz.prog 26 4 4 none := ⟨fo26_4⟩
instance : FoC Tryz.prog 26 5 5 none := ⟨fo26_5⟩
instance : FoC Tryz.prog 32 0 0 none := ⟨fo32_0⟩
instance : FoC Tryz.prog 32 1 1 none := ⟨fo32_1⟩
instance : FoC Tryz.prog 34 0 0 none := ⟨fo34_0⟩
instance : FoC Tryz.prog 34 1 1 none := ⟨fo34_1⟩
instance : FoC Tryz.prog 34 2 2 none := ⟨fo34_2⟩
instance : FoC Tryz.prog 34 3 3 none := ⟨fo34_3⟩
instance : FoC Tryz.prog 34 4 4 none := ⟨fo34_4⟩
instance : FoC Tryz.prog 34 5 5 none := ⟨fo34_5⟩
instance : FoC Tryz.prog 44 0 0 none := ⟨fo44_0⟩
instance : FoC Tryz.prog 48 0 0 none := ⟨fo48_0⟩
instance : FoC Tryz.prog 48 1 1 none := ⟨fo48_1⟩
instance : FoC Tryz.prog 48 2 2 none := ⟨fo48_2⟩
instance : FoC Tryz.prog 48 3 3 none := ⟨fo48_3⟩
instance : FoC Tryz.prog 50 0 0 none := ⟨fo50_0⟩
instance : FoC Tryz.prog 50 1 1 (some 4) := ⟨fo50_1⟩
instance : FoC Tryz.prog 53 0 0 none := ⟨fo53_0⟩
instance : FoC Tryz.prog 53 1 1 none := ⟨fo53_1⟩
instance : FoC Tryz.prog 53 2 2 none := ⟨fo53_2⟩
instance : FoC Tryz.prog 55 0 0 (some 1) := ⟨fo55_0⟩
instance : FoC Tryz.prog 55 1 1 none := ⟨fo55_1⟩
instance : FoC Tryz.prog 55 2 2 none := ⟨fo55_2⟩
instance : FoC Tryz.prog 55 3 3 (some 5) := ⟨fo55_3⟩
instance : FoC Tryz.prog 55 4 8 none := ⟨fo55_4⟩
instance : FoC Tryz.prog 55 5 9 none := ⟨fo55_5⟩
instance : FoC Tryz.prog 55 6 10 none := ⟨fo55_6⟩
instance : FoC Tryz.prog 55 7 11 (some 3) := ⟨fo55_7⟩
instance : FoC Tryz.prog 55 8 14 none := ⟨fo55_8⟩
instance : FoC Tryz.prog 55 9 15 none := ⟨fo55_9⟩
instance : FoC Tryz.prog 57 0 0 none := ⟨fo57_0⟩
instance : FoC Tryz.prog 60 0 0 none := ⟨fo60_0⟩
instance : FoC Tryz.prog 60 1 1 none := ⟨fo60_1⟩
instance : FoC Tryz.prog 60 2 2 none := ⟨fo60_2⟩
instance : FoC Tryz.prog 60 3 3 none := ⟨fo60_3⟩
instance : FoC Tryz.prog 62 0 0 none := ⟨fo62_0⟩
instance : FoC Tryz.prog 62 1 1 (some 4) := ⟨fo62_1⟩
instance : FoC Tryz.prog 64 0 0 none := ⟨fo64_0⟩
instance : FoC Tryz.prog 64 1 1 none := ⟨fo64_1⟩
instance : FoC Tryz.prog 64 2 2 none := ⟨fo64_2⟩
instance : FoC Tryz.prog 66 0 0 (some 1) := ⟨fo66_0⟩
instance : FoC Tryz.prog 66 1 1 none := ⟨fo66_1⟩
instance : FoC Tryz.prog 66 2 2 none := ⟨fo66_2⟩
instance : FoC Tryz.prog 66 3 3 (some 5) := ⟨fo66_3⟩
instance : FoC Tryz.prog 66 4 8 none := ⟨fo66_4⟩
instance : FoC Tryz.prog 66 5 9 none := ⟨fo66_5⟩
instance : FoC Tryz.prog 66 6 10 none := ⟨fo66_6⟩
instance : FoC Tryz.prog 66 7 11 (some 3) := ⟨fo66_7⟩
instance : FoC Tryz.prog 66 8 14 none := ⟨fo66_8⟩
instance : FoC Tryz.prog 66 9 15 none := ⟨fo66_9⟩
instance : FoC Tryz.prog 92 0 0 none := ⟨fo92_0⟩
instance : FoC Tryz.prog 92 1 1 none := ⟨fo92_1⟩
instance : FoC Tryz.prog 92 10 10 none := ⟨fo92_10⟩
instance : FoC Tryz.prog 92 11 11 none := ⟨fo92_11⟩
instance : FoC Tryz.prog 92 12 12 none := ⟨fo92_12⟩
instance : FoC Tryz.prog 92 2 2 none := ⟨fo92_2⟩
instance : FoC Tryz.prog 92 3 3 none := ⟨fo92_3⟩
instance : FoC Tryz.prog 92 4 4 none := ⟨fo92_4⟩
instance : FoC Tryz.prog 92 5 5 none := ⟨fo92_5⟩
instance : FoC Tryz.prog 92 6 6 none := ⟨fo92_6⟩
instance : FoC Tryz.prog 92 7 7 none := ⟨fo92_7⟩
instance : FoC Tryz.prog 92 8 8 none := ⟨fo92_8⟩
instance : FoC Tryz.prog 92 9 9 none := ⟨fo92_9⟩
instance : PlC Tryz.prog 10 := ⟨pl10⟩
instance : PlC Tryz.prog 100 := ⟨pl100⟩
instance : PlC Tryz.prog 101 := ⟨pl101⟩
instance : PlC Tryz.prog 104 := ⟨pl104⟩
instance : PlC Tryz.prog 107 := ⟨pl107⟩
instance : PlC Tryz.prog 108 := ⟨pl108⟩
instance : PlC Tryz.prog 109 := ⟨pl109⟩
instance : PlC Tryz.prog 11 := ⟨pl11⟩
instance : PlC Tryz.prog 110 := ⟨pl110⟩
instance : PlC Tryz.prog 111 := ⟨pl111⟩
instance : PlC Tryz.prog 112 := ⟨pl112⟩
instance : PlC Tryz.prog 113 := ⟨pl113⟩
instance : PlC Tryz.prog 114 := ⟨pl114⟩
instance : PlC Tryz.prog 115 := ⟨pl115⟩
instance : PlC Tryz.prog 116 := ⟨pl116⟩
instance : PlC Tryz.prog 117 := ⟨pl117⟩
instance : PlC Tryz.prog 118 := ⟨pl118⟩
instance : PlC Tryz.prog 119 := ⟨pl119⟩
instance : PlC Tryz.prog 12 := ⟨pl12⟩
instance : PlC Tryz.prog 120 := ⟨pl120⟩
instance : PlC Tryz.prog 121 := ⟨pl121⟩
instance : PlC Tryz.prog 122 := ⟨pl122⟩
instance : PlC Tryz.prog 123 := ⟨pl123⟩
instance : PlC Tryz.prog 124 := ⟨pl124⟩
instance : PlC Tryz.prog 125 := ⟨pl125⟩
instance : PlC Tryz.prog 126 := ⟨pl126⟩
instance : PlC Tryz.prog 127 := ⟨pl127⟩
instance : PlC Tryz.prog 128 := ⟨pl128⟩
instance : PlC Tryz.prog 129 := ⟨pl129⟩
instance : PlC Tryz.prog 13 := ⟨pl13⟩
instance : PlC Tryz.prog 130 := ⟨pl130⟩
instance : PlC Tryz.prog 131 := ⟨pl131⟩
instance : PlC Tryz.prog 132 := ⟨pl132⟩
instance : PlC Tryz.prog 133 := ⟨pl133⟩
instance : PlC Tryz.prog 134 := ⟨pl134⟩
instance : PlC Tryz.prog 135 := ⟨pl135⟩
instance : PlC Tryz.prog 136 := ⟨pl136⟩
instance : PlC Tryz.prog 137 := ⟨pl137⟩
instance : PlC Tryz.prog 138 := ⟨pl138⟩
instance : PlC Tryz.prog 139 := ⟨pl139⟩
instance : PlC Tryz.prog 14 := ⟨pl14⟩
instance : PlC Tryz.prog 140 := ⟨pl140⟩
instance : PlC Tryz.prog 141 := ⟨pl141⟩
instance : PlC Tryz.prog 142 := ⟨pl142⟩
instance : PlC Tryz.prog 143 := ⟨pl143⟩
instance : PlC Tryz.prog 144 := ⟨pl144⟩
instance : PlC Tryz.prog 145 := ⟨pl145⟩
instance : PlC Tryz.prog 146 := ⟨pl146⟩
instance : PlC Tryz.prog 147 := ⟨pl147⟩
instance : PlC Tryz.prog 148 := ⟨pl148⟩
instance : PlC Tryz.prog 149 := ⟨pl149⟩
instance : PlC Tryz.prog 15 := ⟨pl15⟩
instance : PlC Tryz.prog 150 := ⟨pl150⟩
instance : PlC Tryz.prog 151 := ⟨pl151⟩
instance : PlC Tryz.prog 152 := ⟨pl152⟩
instance : PlC Tryz.prog 153 := ⟨pl153⟩
instance : PlC Tryz.prog 154 := ⟨pl154⟩
instance : PlC Tryz.prog 155 := ⟨pl155⟩
instance : PlC Tryz.prog 156 := ⟨pl156⟩
instance : PlC Tryz.prog 157 := ⟨pl157⟩
instance : PlC Tryz.prog 158 := ⟨pl158⟩
instance : PlC Tryz.prog 159 := ⟨pl159⟩
instance : PlC Tryz.prog 16 := ⟨pl16⟩
instance : PlC Tryz.prog 160 := ⟨pl160⟩
instance : PlC Tryz.prog 161 := ⟨pl161⟩
instance : PlC Tryz.prog 162 := ⟨pl162⟩
instance : PlC Tryz.prog 163 := ⟨pl163⟩
instance : PlC Tryz.prog 164 := ⟨pl164⟩
instance : PlC Tryz.prog 165 := ⟨pl165⟩
instance : PlC Tryz.prog 166 := ⟨pl166⟩
instance : PlC Tryz.prog 167 := ⟨pl167⟩
instance : PlC Tryz.prog 168 := ⟨pl168⟩
instance : PlC Tryz.prog 169 := ⟨pl169⟩
instance : PlC Tryz.prog 17 := ⟨pl17⟩
instance : PlC Tryz.prog 170 := ⟨pl170⟩
instance : PlC Tryz.prog 171 := ⟨pl171⟩
instance : PlC Tryz.prog 172 := ⟨pl172⟩
instance : PlC Tryz.prog 173 := ⟨pl173⟩
instance : PlC Tryz.prog 174 := ⟨pl174⟩
instance : PlC Tryz.prog 175 := ⟨pl175⟩
instance : PlC Tryz.prog 176 := ⟨pl176⟩
instance : PlC Tryz.prog 177 := ⟨pl177⟩
instance : PlC Tryz.prog 178 := ⟨pl178⟩
instance : PlC Tryz.prog 179 := ⟨pl179⟩
instance : PlC Tryz.prog 18 := ⟨pl18⟩
instance : PlC Tryz.prog 180 := ⟨pl180⟩
instance : PlC Tryz.prog 181 := ⟨pl181⟩
instance : PlC Tryz.prog 182 := ⟨pl182⟩
instance : PlC Tryz.prog 183 := ⟨pl183⟩
instance : PlC Tryz.prog 184 := ⟨pl184⟩
instance : PlC Tryz.prog 185 := ⟨pl185⟩
instance : PlC Tryz.prog 186 := ⟨pl186⟩
instance : PlC Tryz.prog 187 := ⟨pl187⟩
instance : PlC Tryz.prog 188 := ⟨pl188⟩
instance : PlC Tryz.prog 189 := ⟨pl189⟩
instance : PlC Tryz.prog 19 := ⟨pl19⟩
instance : PlC Tryz.prog 190 := ⟨pl190⟩
instance : PlC Tryz.prog 191 := ⟨pl191⟩
instance : PlC Tryz.prog 192 := ⟨pl192⟩
instance : PlC Tryz.prog 193 := ⟨pl193⟩
instance : PlC Tryz.prog 194 := ⟨pl194⟩
instance : PlC Tryz.prog 195 := ⟨pl195⟩
instance : PlC Tryz.prog 196 := ⟨pl196⟩
instance : PlC Tryz.prog 197 := ⟨pl197⟩
instance : PlC Tryz.prog 198 := ⟨pl198⟩
instance : PlC Tryz.prog 199 := ⟨pl199⟩
instance : PlC Tryz.prog 20 := ⟨pl20⟩
instance : PlC Tryz.prog 200 := ⟨pl200⟩
instance : PlC Tryz.prog 201 := ⟨pl201⟩
instance : PlC Tryz.prog 202 := ⟨pl202⟩
instance : PlC Tryz.prog 203 := ⟨pl203⟩
instance : PlC Tryz.prog 204 := ⟨pl204⟩
instance : PlC Tryz.prog 205 := ⟨pl205⟩
instance : PlC Tryz.prog 206 := ⟨pl206⟩
instance : PlC Tryz.prog 207 := ⟨pl207⟩
instance : PlC Tryz.prog 208 := ⟨pl208⟩
instance : PlC Tryz.prog 209 := ⟨pl209⟩
instance : PlC Tryz.prog 21 := ⟨pl21⟩
instance : PlC Tryz.prog 210 := ⟨pl210⟩
instance : PlC Tryz.prog 211 := ⟨pl211⟩
instance : PlC Tryz.prog 212 := ⟨pl212⟩
instance : PlC Tryz.prog 213 := ⟨pl213⟩
instance : PlC Tryz.prog 214 := ⟨pl214⟩
instance : PlC Tryz.prog 215 := ⟨pl215⟩
instance : PlC Tryz.prog 216 := ⟨pl216⟩
instance : PlC Tryz.prog 217 := ⟨pl217⟩
instance : PlC Tryz.prog 218 := ⟨pl218⟩
instance : PlC Tryz.prog 219 := ⟨pl219⟩
instance : PlC Tryz.prog 22 := ⟨pl22⟩
instance : PlC Tryz.prog 220 := ⟨pl220⟩
instance : PlC Tryz.prog 221 := ⟨pl221⟩
instance : PlC Tryz.prog 23 := ⟨pl23⟩
instance : PlC Tryz.prog 24 := ⟨pl24⟩
instance : PlC Tryz.prog 25 := ⟨pl25⟩
instance : PlC Tryz.prog 26 := ⟨pl26⟩
instance : PlC Tryz.prog 27 := ⟨pl27⟩
instance : PlC Tryz.prog 28 := ⟨pl28⟩
instance : PlC Tryz.prog 29 := ⟨pl29⟩
instance : PlC Tryz.prog 30 := ⟨pl30⟩
instance : PlC Tryz.prog 31 := ⟨pl31⟩
instance : PlC Tryz.prog 32 := ⟨pl32⟩
instance : PlC Tryz.prog 33 := ⟨pl33⟩
instance : PlC Tryz.prog 34 := ⟨pl34⟩
instance : PlC Tryz.prog 38 := ⟨pl38⟩
instance : PlC Tryz.prog 39 := ⟨pl39⟩
instance : PlC Tryz.prog 40 := ⟨pl40⟩
instance : PlC Tryz.prog 41 := ⟨pl41⟩
instance : PlC Tryz.prog 42 := ⟨pl42⟩
instance : PlC Tryz.prog 43 := ⟨pl43⟩
instance : PlC Tryz.prog 44 := ⟨pl44⟩
instance : PlC Tryz.prog 45 := ⟨pl45⟩
instance : PlC Tryz.prog 46 := ⟨pl46⟩
instance : PlC Tryz.prog 47 := ⟨pl47⟩
instance : PlC Tryz.prog 48 := ⟨pl48⟩
instance : PlC Tryz.prog 49 := ⟨pl49⟩
instance : PlC Tryz.prog 50 := ⟨pl50⟩
instance : PlC Tryz.prog 51 := ⟨pl51⟩
instance : PlC Tryz.prog 52 := ⟨pl52⟩
instance : PlC Tryz.prog 53 := ⟨pl53⟩
instance : PlC Tryz.prog 54 := ⟨pl54⟩
instance : PlC Tryz.prog 55 := ⟨pl55⟩
instance : PlC Tryz.prog 56 := ⟨pl56⟩
instance : PlC Tryz.prog 57 := ⟨pl57⟩
instance : PlC Tryz.prog 58 := ⟨pl58⟩
instance : PlC Tryz.prog 59 := ⟨pl59⟩
instance : PlC Tryz.prog 60 := ⟨pl60⟩
instance : PlC Tryz.prog 61 := ⟨pl61⟩
instance : PlC Tryz.prog 62 := ⟨pl62⟩
instance : PlC Tryz.prog 63 := ⟨pl63⟩
instance : PlC Tryz.prog 64 := ⟨pl64⟩
instance : PlC Tryz.prog 65 := ⟨pl65⟩
instance : PlC Tryz.prog 66 := ⟨pl66⟩
instance : PlC Tryz.prog 67 := ⟨pl67⟩
instance : PlC Tryz.prog 68 := ⟨pl68⟩
instance : PlC Tryz.prog 69 := ⟨pl69⟩
instance : PlC Tryz.prog 70 := ⟨pl70⟩
instance : PlC Tryz.prog 71 := ⟨pl71⟩
instance : PlC Tryz.prog 72 := ⟨pl72⟩
instance : PlC Tryz.prog 73 := ⟨pl73⟩
instance : PlC Tryz.prog 74 := ⟨pl74⟩
instance : PlC Tryz.prog 75 := ⟨pl75⟩
instance : PlC Tryz.prog 76 := ⟨pl76⟩
instance : PlC Tryz.prog 77 := ⟨pl77⟩
instance : PlC Tryz.prog 78 := ⟨pl78⟩
instance : PlC Tryz.prog 79 := ⟨pl79⟩
instance : PlC Tryz.prog 80 := ⟨pl80⟩
instance : PlC Tryz.prog 81 := ⟨pl81⟩
instance : PlC Tryz.prog 82 := ⟨pl82⟩
instance : PlC Tryz.prog 83 := ⟨pl83⟩
instance : PlC Tryz.prog 84 := ⟨pl84⟩
instance : PlC Tryz.prog 85 := ⟨pl85⟩
instance : PlC Tryz.prog 86 := ⟨pl86⟩
instance : PlC Tryz.prog 87 := ⟨pl87⟩
instance : PlC Tryz.prog 88 := ⟨pl88⟩
instance : PlC Tryz.prog 89 := ⟨pl89⟩
instance : PlC Tryz.prog 90 := ⟨pl90⟩
instance : PlC Tryz.prog 91 := ⟨pl91⟩
instance : PlC Tryz.prog 92 := ⟨pl92⟩
instance : PlC Tryz.prog 93 := ⟨pl93⟩
instance : PlC Tryz.prog 94 := ⟨pl94⟩
instance : PlC Tryz.prog 95 := ⟨pl95⟩
instance : PlC Tryz.prog 96 := ⟨pl96⟩
instance : PlC Tryz.prog 97 := ⟨pl97⟩
instance : PlC Tryz.prog 98 := ⟨pl98⟩
instance : PlC Tryz.prog 99 := ⟨pl99⟩
instance : ZvC Tryz.prog 127 := ⟨_, zv127⟩
instance : ZvC Tryz.prog 131 := ⟨_, zv131⟩
instance : ZvC Tryz.prog 152 := ⟨_, zv152⟩
instance : ZvC Tryz.prog 194 := ⟨_, zv194⟩
instance : ZvC Tryz.prog 32 := ⟨_, zv32⟩
instance : ZvC Tryz.prog 34 := ⟨_, zv34⟩
instance : ZvC Tryz.prog 57 := ⟨_, zv57⟩
instance : ZvC Tryz.prog 60 := ⟨_, zv60⟩
instance : ZvC Tryz.prog 62 := ⟨_, zv62⟩
instance : ZvC Tryz.prog 64 := ⟨_, zv64⟩
instance : ZvC Tryz.prog 66 := ⟨_, zv66⟩
instance : ZvC Tryz.prog 92 := ⟨_, zv92⟩
instance : UnC Tryz.prog 22 (.slice 55) := ⟨Tryz.underlying22⟩
instance : UnC Tryz.prog 28 (.slice 3) := ⟨Tryz.underlying28⟩
instance : UnC Tryz.prog 30 (.slice 66) := ⟨Tryz.underlying30⟩
instance : UnC Tryz.prog 45 (.slice 155) := ⟨Tryz.underlying45⟩
instance : UnC Tryz.prog 46 (.slice 186) := ⟨Tryz.underlying46⟩
instance : UnC Tryz.prog 51 (.slice 159) := ⟨Tryz.underlying51⟩
instance : UnC Tryz.prog 58 (.slice 152) := ⟨Tryz.underlying58⟩
instance : UnC Tryz.prog 59 (.slice 92) := ⟨Tryz.underlying59⟩
instance : UnC Tryz.prog 63 (.slice 131) := ⟨Tryz.underlying63⟩
instance : UnC Tryz.prog 90 (.slice 194) := ⟨Tryz.underlying90⟩
instance : UnC Tryz.prog 125 (.slice 127) := ⟨Tryz.underlying125⟩
instance : UnC Tryz.prog 140 (.slice 4) := ⟨Tryz.underlying140⟩
instance : UnC Tryz.prog 184 (.slice 200) := ⟨Tryz.underlying184⟩
end Go.Kx
