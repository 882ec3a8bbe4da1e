/- Closed facts of the program's types and functions. Printed by drive.py. -/
import Derived.Test.YtdjpppkdngmeaaaGreatProg
import Derived.Test.YtdjpppkdngmeaaaGreatGo
import Derived.Test.YtdjpppkdngmeaaaGreatDat
namespace Go.Kx
open Go Go.RowKit Go.Proofs
set_option maxRecDepth 10000
set_option maxHeartbeats 2000000
set_option linter.unusedVariables false
set_option linter.unusedSimpArgs false
theorem ag109 : aggV Tryz.prog 109 = some (some 5) := by kernel_rfl
theorem ag114 : aggV Tryz.prog 114 = some (some 5) := by kernel_rfl
theorem ag131 : aggV Tryz.prog 131 = some (some 5) := by kernel_rfl
theorem ag135 : aggV Tryz.prog 135 = some (some 6) := by kernel_rfl
theorem ag137 : aggV Tryz.prog 137 = some (some 6) := by kernel_rfl
theorem ag166 : aggV Tryz.prog 166 = some none := by kernel_rfl
theorem ag168 : aggV Tryz.prog 168 = some (some 13) := by kernel_rfl
theorem ag187 : aggV Tryz.prog 187 = some (some 2) := by kernel_rfl
theorem ag190 : aggV Tryz.prog 190 = some (some 2) := by kernel_rfl
theorem ag22 : aggV Tryz.prog 22 = some none := by kernel_rfl
theorem ag24 : aggV Tryz.prog 24 = some (some 1) := by kernel_rfl
theorem ag25 : aggV Tryz.prog 25 = some none := by kernel_rfl
theorem ag26 : aggV Tryz.prog 26 = some none := by kernel_rfl
theorem ag28 : aggV Tryz.prog 28 = some (some 4) := by kernel_rfl
theorem ag3 : aggV Tryz.prog 3 = some none := by kernel_rfl
theorem ag30 : aggV Tryz.prog 30 = some (some 5) := by kernel_rfl
theorem ag31 : aggV Tryz.prog 31 = some none := by kernel_rfl
theorem ag33 : aggV Tryz.prog 33 = some (some 3) := by kernel_rfl
theorem ag35 : aggV Tryz.prog 35 = some (some 16) := by kernel_rfl
theorem ag38 : aggV Tryz.prog 38 = some (some 1) := by kernel_rfl
theorem ag39 : aggV Tryz.prog 39 = some none := by kernel_rfl
theorem ag4 : aggV Tryz.prog 4 = some none := by kernel_rfl
theorem ag40 : aggV Tryz.prog 40 = some none := by kernel_rfl
theorem ag41 : aggV Tryz.prog 41 = some (some 4) := by kernel_rfl
theorem ag43 : aggV Tryz.prog 43 = some (some 5) := by kernel_rfl
theorem ag44 : aggV Tryz.prog 44 = some none := by kernel_rfl
theorem ag45 : aggV Tryz.prog 45 = some (some 3) := by kernel_rfl
theorem ag47 : aggV Tryz.prog 47 = some (some 16) := by kernel_rfl
theorem ag54 : aggV Tryz.prog 54 = some none := by kernel_rfl
theorem ag56 : aggV Tryz.prog 56 = some (some 2) := by kernel_rfl
theorem ag59 : aggV Tryz.prog 59 = some none := by kernel_rfl
theorem ag61 : aggV Tryz.prog 61 = some (some 2) := by kernel_rfl
theorem ag83 : aggV Tryz.prog 83 = some none := by kernel_rfl
theorem ag85 : aggV Tryz.prog 85 = some (some 13) := by kernel_rfl
theorem ag87 : aggV Tryz.prog 87 = some (some 5) := by kernel_rfl
theorem eg187 : Program.eqGuardType Tryz.prog Tryz.prog.depth 187 = false := by kernel_rfl
theorem eg45 : Program.eqGuardType Tryz.prog Tryz.prog.depth 45 = false := by kernel_rfl
theorem eg87 : Program.eqGuardType Tryz.prog Tryz.prog.depth 87 = false := by kernel_rfl
theorem eq187 : ∀ (a b : DMsg) (w : World), (Op.equalIn 10000 187 (.agg #[.int .i64 a.src, .int .i64 a.n]) (.agg #[.int .i64 b.src, .int .i64 b.n])).run Tryz.prog w = .ok (decide (a = b)) w := fun a b w => EqT.top (n := 1) (EqT.agg (n := 0) Tryz.underlying187 (by kernel_rfl) (EqF.one rfl ag3 rfl rfl (EqT.int Tryz.underlying3) (EqF.one rfl ag3 rfl rfl (EqT.int Tryz.underlying3) EqF.nil))) (by decide) (by
  obtain ⟨x0, x1⟩ := a
  obtain ⟨y0, y1⟩ := b
  simp [DMsg.mk.injEq, Bool.beq_eq_decide_eq, Bool.decide_and]) w
theorem eq45 : ∀ (a b : DAmt) (w : World), (Op.equalIn 10000 45 (.agg #[.int .i64 a.pages, .int .i64 a.rent, .int .i64 a.cpu]) (.agg #[.int .i64 b.pages, .int .i64 b.rent, .int .i64 b.cpu])).run Tryz.prog w = .ok (decide (a = b)) w := fun a b w => EqT.top (n := 1) (EqT.agg (n := 0) Tryz.underlying45 (by kernel_rfl) (EqF.one rfl ag3 rfl rfl (EqT.int Tryz.underlying3) (EqF.one rfl ag3 rfl rfl (EqT.int Tryz.underlying3) (EqF.one rfl ag3 rfl rfl (EqT.int Tryz.underlying3) EqF.nil)))) (by decide) (by
  obtain ⟨x0, x1, x2⟩ := a
  obtain ⟨y0, y1, y2⟩ := b
  simp [DAmt.mk.injEq, Bool.beq_eq_decide_eq, Bool.decide_and]) w
theorem eq87 : ∀ (a b : DRes) (w : World), (Op.equalIn 10000 87 (.agg #[.bool a.live, .int .i64 a.parent, .int .i64 a.bal.pages, .int .i64 a.bal.rent, .int .i64 a.bal.cpu]) (.agg #[.bool b.live, .int .i64 b.parent, .int .i64 b.bal.pages, .int .i64 b.bal.rent, .int .i64 b.bal.cpu])).run Tryz.prog w = .ok (decide (a = b)) w := fun a b w => EqT.top (n := 2) (EqT.agg (n := 1) Tryz.underlying87 (by kernel_rfl) (EqF.one rfl ag4 rfl rfl (EqT.bool Tryz.underlying4) (EqF.one rfl ag3 rfl rfl (EqT.int Tryz.underlying3) (EqF.more rfl ag45 (EqT.agg (n := 0) Tryz.underlying45 (by kernel_rfl) (EqF.one rfl ag3 rfl rfl (EqT.int Tryz.underlying3) (EqF.one rfl ag3 rfl rfl (EqT.int Tryz.underlying3) (EqF.one rfl ag3 rfl rfl (EqT.int Tryz.underlying3) EqF.nil)))) EqF.nil)))) (by decide) (by
  obtain ⟨x0, x1, ⟨x2, x3, x4⟩⟩ := a
  obtain ⟨y0, y1, ⟨y2, y3, y4⟩⟩ := b
  simp [DAmt.mk.injEq, DRes.mk.injEq, Bool.beq_eq_decide_eq, Bool.decide_and]) w
theorem fo109_0 : fo Tryz.prog 109 0 = some (0, some 1) := by kernel_rfl
theorem fo109_1 : fo Tryz.prog 109 1 = some (1, none) := by kernel_rfl
theorem fo109_2 : fo Tryz.prog 109 2 = some (2, some 3) := by kernel_rfl
theorem fo114_0 : fo Tryz.prog 114 0 = some (0, some 1) := by kernel_rfl
theorem fo114_1 : fo Tryz.prog 114 1 = some (1, none) := by kernel_rfl
theorem fo114_2 : fo Tryz.prog 114 2 = some (2, some 3) := by kernel_rfl
theorem fo131_0 : fo Tryz.prog 131 0 = some (0, none) := by kernel_rfl
theorem fo131_1 : fo Tryz.prog 131 1 = some (1, none) := by kernel_rfl
theorem fo131_2 : fo Tryz.prog 131 2 = some (2, some 3) := by kernel_rfl
theorem fo135_0 : fo Tryz.prog 135 0 = some (0, none) := by kernel_rfl
theorem fo135_1 : fo Tryz.prog 135 1 = some (1, none) := by kernel_rfl
theorem fo135_2 : fo Tryz.prog 135 2 = some (2, none) := by kernel_rfl
theorem fo135_3 : fo Tryz.prog 135 3 = some (3, none) := by kernel_rfl
theorem fo135_4 : fo Tryz.prog 135 4 = some (4, none) := by kernel_rfl
theorem fo135_5 : fo Tryz.prog 135 5 = some (5, none) := by kernel_rfl
theorem fo137_0 : fo Tryz.prog 137 0 = some (0, none) := by kernel_rfl
theorem fo137_1 : fo Tryz.prog 137 1 = some (1, none) := by kernel_rfl
theorem fo137_2 : fo Tryz.prog 137 2 = some (2, none) := by kernel_rfl
theorem fo137_3 : fo Tryz.prog 137 3 = some (3, none) := by kernel_rfl
theorem fo137_4 : fo Tryz.prog 137 4 = some (4, none) := by kernel_rfl
theorem fo137_5 : fo Tryz.prog 137 5 = some (5, none) := by kernel_rfl
theorem fo168_0 : fo Tryz.prog 168 0 = some (0, none) := by kernel_rfl
theorem fo168_1 : fo Tryz.prog 168 1 = some (1, none) := by kernel_rfl
theorem fo168_10 : fo Tryz.prog 168 10 = some (10, none) := by kernel_rfl
theorem fo168_11 : fo Tryz.prog 168 11 = some (11, none) := by kernel_rfl
theorem fo168_12 : fo Tryz.prog 168 12 = some (12, none) := by kernel_rfl
theorem fo168_2 : fo Tryz.prog 168 2 = some (2, none) := by kernel_rfl
theorem fo168_3 : fo Tryz.prog 168 3 = some (3, none) := by kernel_rfl
theorem fo168_4 : fo Tryz.prog 168 4 = some (4, none) := by kernel_rfl
theorem fo168_5 : fo Tryz.prog 168 5 = some (5, none) := by kernel_rfl
theorem fo168_6 : fo Tryz.prog 168 6 = some (6, none) := by kernel_rfl
theorem fo168_7 : fo Tryz.prog 168 7 = some (7, none) := by kernel_rfl
theorem fo168_8 : fo Tryz.prog 168 8 = some (8, none) := by kernel_rfl
theorem fo168_9 : fo Tryz.prog 168 9 = some (9, none) := by kernel_rfl
theorem fo187_0 : fo Tryz.prog 187 0 = some (0, none) := by kernel_rfl
theorem fo187_1 : fo Tryz.prog 187 1 = some (1, none) := by kernel_rfl
theorem fo190_0 : fo Tryz.prog 190 0 = some (0, none) := by kernel_rfl
theorem fo190_1 : fo Tryz.prog 190 1 = some (1, none) := by kernel_rfl
theorem fo24_0 : fo Tryz.prog 24 0 = some (0, none) := by kernel_rfl
theorem fo28_0 : fo Tryz.prog 28 0 = some (0, none) := by kernel_rfl
theorem fo28_1 : fo Tryz.prog 28 1 = some (1, none) := by kernel_rfl
theorem fo28_2 : fo Tryz.prog 28 2 = some (2, none) := by kernel_rfl
theorem fo28_3 : fo Tryz.prog 28 3 = some (3, none) := by kernel_rfl
theorem fo30_0 : fo Tryz.prog 30 0 = some (0, none) := by kernel_rfl
theorem fo30_1 : fo Tryz.prog 30 1 = some (1, some 4) := by kernel_rfl
theorem fo33_0 : fo Tryz.prog 33 0 = some (0, none) := by kernel_rfl
theorem fo33_1 : fo Tryz.prog 33 1 = some (1, none) := by kernel_rfl
theorem fo33_2 : fo Tryz.prog 33 2 = some (2, none) := by kernel_rfl
theorem fo35_0 : fo Tryz.prog 35 0 = some (0, some 1) := by kernel_rfl
theorem fo35_1 : fo Tryz.prog 35 1 = some (1, none) := by kernel_rfl
theorem fo35_2 : fo Tryz.prog 35 2 = some (2, none) := by kernel_rfl
theorem fo35_3 : fo Tryz.prog 35 3 = some (3, some 5) := by kernel_rfl
theorem fo35_4 : fo Tryz.prog 35 4 = some (8, none) := by kernel_rfl
theorem fo35_5 : fo Tryz.prog 35 5 = some (9, none) := by kernel_rfl
theorem fo35_6 : fo Tryz.prog 35 6 = some (10, none) := by kernel_rfl
theorem fo35_7 : fo Tryz.prog 35 7 = some (11, some 3) := by kernel_rfl
theorem fo35_8 : fo Tryz.prog 35 8 = some (14, none) := by kernel_rfl
theorem fo35_9 : fo Tryz.prog 35 9 = some (15, none) := by kernel_rfl
theorem fo38_0 : fo Tryz.prog 38 0 = some (0, none) := by kernel_rfl
theorem fo41_0 : fo Tryz.prog 41 0 = some (0, none) := by kernel_rfl
theorem fo41_1 : fo Tryz.prog 41 1 = some (1, none) := by kernel_rfl
theorem fo41_2 : fo Tryz.prog 41 2 = some (2, none) := by kernel_rfl
theorem fo41_3 : fo Tryz.prog 41 3 = some (3, none) := by kernel_rfl
theorem fo43_0 : fo Tryz.prog 43 0 = some (0, none) := by kernel_rfl
theorem fo43_1 : fo Tryz.prog 43 1 = some (1, some 4) := by kernel_rfl
theorem fo45_0 : fo Tryz.prog 45 0 = some (0, none) := by kernel_rfl
theorem fo45_1 : fo Tryz.prog 45 1 = some (1, none) := by kernel_rfl
theorem fo45_2 : fo Tryz.prog 45 2 = some (2, none) := by kernel_rfl
theorem fo47_0 : fo Tryz.prog 47 0 = some (0, some 1) := by kernel_rfl
theorem fo47_1 : fo Tryz.prog 47 1 = some (1, none) := by kernel_rfl
theorem fo47_2 : fo Tryz.prog 47 2 = some (2, none) := by kernel_rfl
theorem fo47_3 : fo Tryz.prog 47 3 = some (3, some 5) := by kernel_rfl
theorem fo47_4 : fo Tryz.prog 47 4 = some (8, none) := by kernel_rfl
theorem fo47_5 : fo Tryz.prog 47 5 = some (9, none) := by kernel_rfl
theorem fo47_6 : fo Tryz.prog 47 6 = some (10, none) := by kernel_rfl
theorem fo47_7 : fo Tryz.prog 47 7 = some (11, some 3) := by kernel_rfl
theorem fo47_8 : fo Tryz.prog 47 8 = some (14, none) := by kernel_rfl
theorem fo47_9 : fo Tryz.prog 47 9 = some (15, none) := by kernel_rfl
theorem fo56_0 : fo Tryz.prog 56 0 = some (0, none) := by kernel_rfl
theorem fo56_1 : fo Tryz.prog 56 1 = some (1, none) := by kernel_rfl
theorem fo61_0 : fo Tryz.prog 61 0 = some (0, none) := by kernel_rfl
theorem fo61_1 : fo Tryz.prog 61 1 = some (1, none) := by kernel_rfl
theorem fo85_0 : fo Tryz.prog 85 0 = some (0, none) := by kernel_rfl
theorem fo85_1 : fo Tryz.prog 85 1 = some (1, none) := by kernel_rfl
theorem fo85_10 : fo Tryz.prog 85 10 = some (10, none) := by kernel_rfl
theorem fo85_11 : fo Tryz.prog 85 11 = some (11, none) := by kernel_rfl
theorem fo85_12 : fo Tryz.prog 85 12 = some (12, none) := by kernel_rfl
theorem fo85_2 : fo Tryz.prog 85 2 = some (2, none) := by kernel_rfl
theorem fo85_3 : fo Tryz.prog 85 3 = some (3, none) := by kernel_rfl
theorem fo85_4 : fo Tryz.prog 85 4 = some (4, none) := by kernel_rfl
theorem fo85_5 : fo Tryz.prog 85 5 = some (5, none) := by kernel_rfl
theorem fo85_6 : fo Tryz.prog 85 6 = some (6, none) := by kernel_rfl
theorem fo85_7 : fo Tryz.prog 85 7 = some (7, none) := by kernel_rfl
theorem fo85_8 : fo Tryz.prog 85 8 = some (8, none) := by kernel_rfl
theorem fo85_9 : fo Tryz.prog 85 9 = some (9, none) := by kernel_rfl
theorem fo87_0 : fo Tryz.prog 87 0 = some (0, none) := by kernel_rfl
theorem fo87_1 : fo Tryz.prog 87 1 = some (1, none) := by kernel_rfl
theorem fo87_2 : fo Tryz.prog 87 2 = some (2, some 3) := by kernel_rfl
theorem pl10 : plainFn Tryz.prog 10 = true := by kernel_rfl
theorem pl100 : plainFn Tryz.prog 100 = true := by kernel_rfl
theorem pl101 : plainFn Tryz.prog 101 = true := by kernel_rfl
theorem pl102 : plainFn Tryz.prog 102 = true := by kernel_rfl
theorem pl103 : plainFn Tryz.prog 103 = true := by kernel_rfl
theorem pl104 : plainFn Tryz.prog 104 = true := by kernel_rfl
theorem pl105 : plainFn Tryz.prog 105 = true := by kernel_rfl
theorem pl106 : plainFn Tryz.prog 106 = true := by kernel_rfl
theorem pl107 : plainFn Tryz.prog 107 = true := by kernel_rfl
theorem pl108 : plainFn Tryz.prog 108 = true := by kernel_rfl
theorem pl109 : plainFn Tryz.prog 109 = true := by kernel_rfl
theorem pl11 : plainFn Tryz.prog 11 = true := by kernel_rfl
theorem pl110 : plainFn Tryz.prog 110 = true := by kernel_rfl
theorem pl111 : plainFn Tryz.prog 111 = true := by kernel_rfl
theorem pl112 : plainFn Tryz.prog 112 = true := by kernel_rfl
theorem pl113 : plainFn Tryz.prog 113 = true := by kernel_rfl
theorem pl114 : plainFn Tryz.prog 114 = true := by kernel_rfl
theorem pl115 : plainFn Tryz.prog 115 = true := by kernel_rfl
theorem pl116 : plainFn Tryz.prog 116 = true := by kernel_rfl
theorem pl117 : plainFn Tryz.prog 117 = true := by kernel_rfl
theorem pl118 : plainFn Tryz.prog 118 = true := by kernel_rfl
theorem pl119 : plainFn Tryz.prog 119 = true := by kernel_rfl
theorem pl12 : plainFn Tryz.prog 12 = true := by kernel_rfl
theorem pl120 : plainFn Tryz.prog 120 = true := by kernel_rfl
theorem pl121 : plainFn Tryz.prog 121 = true := by kernel_rfl
theorem pl122 : plainFn Tryz.prog 122 = true := by kernel_rfl
theorem pl123 : plainFn Tryz.prog 123 = true := by kernel_rfl
theorem pl124 : plainFn Tryz.prog 124 = true := by kernel_rfl
theorem pl125 : plainFn Tryz.prog 125 = true := by kernel_rfl
theorem pl126 : plainFn Tryz.prog 126 = true := by kernel_rfl
theorem pl127 : plainFn Tryz.prog 127 = true := by kernel_rfl
theorem pl128 : plainFn Tryz.prog 128 = true := by kernel_rfl
theorem pl129 : plainFn Tryz.prog 129 = true := by kernel_rfl
theorem pl13 : plainFn Tryz.prog 13 = true := by kernel_rfl
theorem pl130 : plainFn Tryz.prog 130 = true := by kernel_rfl
theorem pl131 : plainFn Tryz.prog 131 = true := by kernel_rfl
theorem pl132 : plainFn Tryz.prog 132 = true := by kernel_rfl
theorem pl133 : plainFn Tryz.prog 133 = true := by kernel_rfl
theorem pl134 : plainFn Tryz.prog 134 = true := by kernel_rfl
theorem pl135 : plainFn Tryz.prog 135 = true := by kernel_rfl
theorem pl136 : plainFn Tryz.prog 136 = true := by kernel_rfl
theorem pl137 : plainFn Tryz.prog 137 = true := by kernel_rfl
theorem pl138 : plainFn Tryz.prog 138 = true := by kernel_rfl
theorem pl139 : plainFn Tryz.prog 139 = true := by kernel_rfl
theorem pl14 : plainFn Tryz.prog 14 = true := by kernel_rfl
theorem pl140 : plainFn Tryz.prog 140 = true := by kernel_rfl
theorem pl141 : plainFn Tryz.prog 141 = true := by kernel_rfl
theorem pl142 : plainFn Tryz.prog 142 = true := by kernel_rfl
theorem pl143 : plainFn Tryz.prog 143 = true := by kernel_rfl
theorem pl144 : plainFn Tryz.prog 144 = true := by kernel_rfl
theorem pl145 : plainFn Tryz.prog 145 = true := by kernel_rfl
theorem pl146 : plainFn Tryz.prog 146 = true := by kernel_rfl
theorem pl147 : plainFn Tryz.prog 147 = true := by kernel_rfl
theorem pl148 : plainFn Tryz.prog 148 = true := by kernel_rfl
theorem pl149 : plainFn Tryz.prog 149 = true := by kernel_rfl
theorem pl15 : plainFn Tryz.prog 15 = true := by kernel_rfl
theorem pl150 : plainFn Tryz.prog 150 = true := by kernel_rfl
theorem pl151 : plainFn Tryz.prog 151 = true := by kernel_rfl
theorem pl152 : plainFn Tryz.prog 152 = true := by kernel_rfl
theorem pl153 : plainFn Tryz.prog 153 = true := by kernel_rfl
theorem pl154 : plainFn Tryz.prog 154 = true := by kernel_rfl
theorem pl155 : plainFn Tryz.prog 155 = true := by kernel_rfl
theorem pl156 : plainFn Tryz.prog 156 = true := by kernel_rfl
theorem pl157 : plainFn Tryz.prog 157 = true := by kernel_rfl
theorem pl158 : plainFn Tryz.prog 158 = true := by kernel_rfl
theorem pl159 : plainFn Tryz.prog 159 = true := by kernel_rfl
theorem pl16 : plainFn Tryz.prog 16 = true := by kernel_rfl
theorem pl160 : plainFn Tryz.prog 160 = true := by kernel_rfl
theorem pl161 : plainFn Tryz.prog 161 = true := by kernel_rfl
theorem pl162 : plainFn Tryz.prog 162 = true := by kernel_rfl
theorem pl163 : plainFn Tryz.prog 163 = true := by kernel_rfl
theorem pl164 : plainFn Tryz.prog 164 = true := by kernel_rfl
theorem pl165 : plainFn Tryz.prog 165 = true := by kernel_rfl
theorem pl166 : plainFn Tryz.prog 166 = true := by kernel_rfl
theorem pl167 : plainFn Tryz.prog 167 = true := by kernel_rfl
theorem pl168 : plainFn Tryz.prog 168 = true := by kernel_rfl
theorem pl169 : plainFn Tryz.prog 169 = true := by kernel_rfl
theorem pl17 : plainFn Tryz.prog 17 = true := by kernel_rfl
theorem pl170 : plainFn Tryz.prog 170 = true := by kernel_rfl
theorem pl171 : plainFn Tryz.prog 171 = true := by kernel_rfl
theorem pl172 : plainFn Tryz.prog 172 = true := by kernel_rfl
theorem pl173 : plainFn Tryz.prog 173 = true := by kernel_rfl
theorem pl174 : plainFn Tryz.prog 174 = true := by kernel_rfl
theorem pl175 : plainFn Tryz.prog 175 = true := by kernel_rfl
theorem pl176 : plainFn Tryz.prog 176 = true := by kernel_rfl
theorem pl177 : plainFn Tryz.prog 177 = true := by kernel_rfl
theorem pl178 : plainFn Tryz.prog 178 = true := by kernel_rfl
theorem pl179 : plainFn Tryz.prog 179 = true := by kernel_rfl
theorem pl18 : plainFn Tryz.prog 18 = true := by kernel_rfl
theorem pl180 : plainFn Tryz.prog 180 = true := by kernel_rfl
theorem pl181 : plainFn Tryz.prog 181 = true := by kernel_rfl
theorem pl182 : plainFn Tryz.prog 182 = true := by kernel_rfl
theorem pl183 : plainFn Tryz.prog 183 = true := by kernel_rfl
theorem pl184 : plainFn Tryz.prog 184 = true := by kernel_rfl
theorem pl185 : plainFn Tryz.prog 185 = true := by kernel_rfl
theorem pl186 : plainFn Tryz.prog 186 = true := by kernel_rfl
theorem pl187 : plainFn Tryz.prog 187 = true := by kernel_rfl
theorem pl188 : plainFn Tryz.prog 188 = true := by kernel_rfl
theorem pl19 : plainFn Tryz.prog 19 = true := by kernel_rfl
theorem pl20 : plainFn Tryz.prog 20 = true := by kernel_rfl
theorem pl21 : plainFn Tryz.prog 21 = true := by kernel_rfl
theorem pl22 : plainFn Tryz.prog 22 = true := by kernel_rfl
theorem pl23 : plainFn Tryz.prog 23 = true := by kernel_rfl
theorem pl24 : plainFn Tryz.prog 24 = true := by kernel_rfl
theorem pl25 : plainFn Tryz.prog 25 = true := by kernel_rfl
theorem pl26 : plainFn Tryz.prog 26 = true := by kernel_rfl
theorem pl27 : plainFn Tryz.prog 27 = true := by kernel_rfl
theorem pl28 : plainFn Tryz.prog 28 = true := by kernel_rfl
theorem pl29 : plainFn Tryz.prog 29 = true := by kernel_rfl
theorem pl30 : plainFn Tryz.prog 30 = true := by kernel_rfl
theorem pl31 : plainFn Tryz.prog 31 = true := by kernel_rfl
theorem pl32 : plainFn Tryz.prog 32 = true := by kernel_rfl
theorem pl33 : plainFn Tryz.prog 33 = true := by kernel_rfl
theorem pl34 : plainFn Tryz.prog 34 = true := by kernel_rfl
theorem pl35 : plainFn Tryz.prog 35 = true := by kernel_rfl
theorem pl36 : plainFn Tryz.prog 36 = true := by kernel_rfl
theorem pl37 : plainFn Tryz.prog 37 = true := by kernel_rfl
theorem pl38 : plainFn Tryz.prog 38 = true := by kernel_rfl
theorem pl39 : plainFn Tryz.prog 39 = true := by kernel_rfl
theorem pl40 : plainFn Tryz.prog 40 = true := by kernel_rfl
theorem pl41 : plainFn Tryz.prog 41 = true := by kernel_rfl
theorem pl42 : plainFn Tryz.prog 42 = true := by kernel_rfl
theorem pl43 : plainFn Tryz.prog 43 = true := by kernel_rfl
theorem pl44 : plainFn Tryz.prog 44 = true := by kernel_rfl
theorem pl45 : plainFn Tryz.prog 45 = true := by kernel_rfl
theorem pl46 : plainFn Tryz.prog 46 = true := by kernel_rfl
theorem pl47 : plainFn Tryz.prog 47 = true := by kernel_rfl
theorem pl48 : plainFn Tryz.prog 48 = true := by kernel_rfl
theorem pl49 : plainFn Tryz.prog 49 = true := by kernel_rfl
theorem pl50 : plainFn Tryz.prog 50 = true := by kernel_rfl
theorem pl51 : plainFn Tryz.prog 51 = true := by kernel_rfl
theorem pl52 : plainFn Tryz.prog 52 = true := by kernel_rfl
theorem pl53 : plainFn Tryz.prog 53 = true := by kernel_rfl
theorem pl54 : plainFn Tryz.prog 54 = true := by kernel_rfl
theorem pl55 : plainFn Tryz.prog 55 = true := by kernel_rfl
theorem pl56 : plainFn Tryz.prog 56 = true := by kernel_rfl
theorem pl57 : plainFn Tryz.prog 57 = true := by kernel_rfl
theorem pl58 : plainFn Tryz.prog 58 = true := by kernel_rfl
theorem pl59 : plainFn Tryz.prog 59 = true := by kernel_rfl
theorem pl60 : plainFn Tryz.prog 60 = true := by kernel_rfl
theorem pl61 : plainFn Tryz.prog 61 = true := by kernel_rfl
theorem pl62 : plainFn Tryz.prog 62 = true := by kernel_rfl
theorem pl63 : plainFn Tryz.prog 63 = true := by kernel_rfl
theorem pl64 : plainFn Tryz.prog 64 = true := by kernel_rfl
theorem pl65 : plainFn Tryz.prog 65 = true := by kernel_rfl
theorem pl66 : plainFn Tryz.prog 66 = true := by kernel_rfl
theorem pl67 : plainFn Tryz.prog 67 = true := by kernel_rfl
theorem pl68 : plainFn Tryz.prog 68 = true := by kernel_rfl
theorem pl69 : plainFn Tryz.prog 69 = true := by kernel_rfl
theorem pl70 : plainFn Tryz.prog 70 = true := by kernel_rfl
theorem pl71 : plainFn Tryz.prog 71 = true := by kernel_rfl
theorem pl72 : plainFn Tryz.prog 72 = true := by kernel_rfl
theorem pl73 : plainFn Tryz.prog 73 = true := by kernel_rfl
theorem pl74 : plainFn Tryz.prog 74 = true := by kernel_rfl
theorem pl75 : plainFn Tryz.prog 75 = true := by kernel_rfl
theorem pl76 : plainFn Tryz.prog 76 = true := by kernel_rfl
theorem pl77 : plainFn Tryz.prog 77 = true := by kernel_rfl
theorem pl78 : plainFn Tryz.prog 78 = true := by kernel_rfl
theorem pl79 : plainFn Tryz.prog 79 = true := by kernel_rfl
theorem pl8 : plainFn Tryz.prog 8 = true := by kernel_rfl
theorem pl80 : plainFn Tryz.prog 80 = true := by kernel_rfl
theorem pl81 : plainFn Tryz.prog 81 = true := by kernel_rfl
theorem pl82 : plainFn Tryz.prog 82 = true := by kernel_rfl
theorem pl83 : plainFn Tryz.prog 83 = true := by kernel_rfl
theorem pl84 : plainFn Tryz.prog 84 = true := by kernel_rfl
theorem pl85 : plainFn Tryz.prog 85 = true := by kernel_rfl
theorem pl86 : plainFn Tryz.prog 86 = true := by kernel_rfl
theorem pl87 : plainFn Tryz.prog 87 = true := by kernel_rfl
theorem pl88 : plainFn Tryz.prog 88 = true := by kernel_rfl
theorem pl89 : plainFn Tryz.prog 89 = true := by kernel_rfl
theorem pl9 : plainFn Tryz.prog 9 = true := by kernel_rfl
theorem pl90 : plainFn Tryz.prog 90 = true := by kernel_rfl
theorem pl91 : plainFn Tryz.prog 91 = true := by kernel_rfl
theorem pl92 : plainFn Tryz.prog 92 = true := by kernel_rfl
theorem pl93 : plainFn Tryz.prog 93 = true := by kernel_rfl
theorem pl94 : plainFn Tryz.prog 94 = true := by kernel_rfl
theorem pl95 : plainFn Tryz.prog 95 = true := by kernel_rfl
theorem pl96 : plainFn Tryz.prog 96 = true := by kernel_rfl
theorem pl97 : plainFn Tryz.prog 97 = true := by kernel_rfl
theorem pl98 : plainFn Tryz.prog 98 = true := by kernel_rfl
theorem pl99 : plainFn Tryz.prog 99 = true := by kernel_rfl
theorem sT126 : SlT Tryz.prog 126 Bool := SlT.of (b := 1) (by kernel_rfl) rfl
theorem sT22 : SlT Tryz.prog 22 Int := SlT.of (b := 8) (by kernel_rfl) rfl
theorem sT39 : SlT Tryz.prog 39 DRes := SlT.of (b := 40) (by kernel_rfl) rfl
theorem sT40 : SlT Tryz.prog 40 DObj := SlT.of (b := 152) (by kernel_rfl) rfl
theorem sT44 : SlT Tryz.prog 44 DTap := SlT.of (b := 48) (by kernel_rfl) rfl
theorem sT59 : SlT Tryz.prog 59 DPart := SlT.of (b := 224) (by kernel_rfl) rfl
theorem sT68 : SlT Tryz.prog 68 DBoot := SlT.of (b := 72) (by kernel_rfl) rfl
theorem sT83 : SlT Tryz.prog 83 DMsg := SlT.of (b := 16) (by kernel_rfl) rfl
theorem sTP40 : SlT Tryz.prog 40 DObjP := SlT.of (b := 152) (by kernel_rfl) rfl
theorem sz109 : szV Tryz.prog 109 = some 5 := by kernel_rfl
theorem sz114 : szV Tryz.prog 114 = some 5 := by kernel_rfl
theorem sz131 : szV Tryz.prog 131 = some 5 := by kernel_rfl
theorem sz135 : szV Tryz.prog 135 = some 6 := by kernel_rfl
theorem sz137 : szV Tryz.prog 137 = some 6 := by kernel_rfl
theorem sz168 : szV Tryz.prog 168 = some 13 := by kernel_rfl
theorem sz187 : szV Tryz.prog 187 = some 2 := by kernel_rfl
theorem sz190 : szV Tryz.prog 190 = some 2 := by kernel_rfl
theorem sz3 : szV Tryz.prog 3 = some 1 := by kernel_rfl
theorem sz35 : szV Tryz.prog 35 = some 16 := by kernel_rfl
theorem sz4 : szV Tryz.prog 4 = some 1 := by kernel_rfl
theorem sz47 : szV Tryz.prog 47 = some 16 := by kernel_rfl
theorem sz85 : szV Tryz.prog 85 = some 13 := by kernel_rfl
theorem sz87 : szV Tryz.prog 87 = some 5 := by kernel_rfl
theorem zv114 : zeroV Tryz.prog 114 = some (.agg #[.slice none 0 0, .slice none 0 0, .int .i64 0, .int .i64 0, .int .i64 0]) := by kernel_rfl
theorem zv135 : zeroV Tryz.prog 135 = some (.agg #[.int .i64 0, .int .i64 0, .int .i64 0, .int .i64 0, .int .i64 0, .int .i64 0]) := by kernel_rfl
theorem zv187 : zeroV Tryz.prog 187 = some (.agg #[.int .i64 0, .int .i64 0]) := by kernel_rfl
theorem zv38 : zeroV Tryz.prog 38 = some (.agg #[.slice none 0 0]) := by kernel_rfl
theorem zv41 : zeroV Tryz.prog 41 = some (.agg #[.int .i64 0, .int .i64 0, .int .i64 0, .slice none 0 0]) := by kernel_rfl
theorem zv43 : zeroV Tryz.prog 43 = some (.agg #[.slice none 0 0, .int .i64 0, .int .i64 0, .int .i64 0, .slice none 0 0]) := by kernel_rfl
theorem zv45 : zeroV Tryz.prog 45 = some (.agg #[.int .i64 0, .int .i64 0, .int .i64 0]) := by kernel_rfl
theorem zv47 : zeroV Tryz.prog 47 = some (.agg #[.slice none 0 0, .slice none 0 0, .slice none 0 0, .slice none 0 0, .int .i64 0, .int .i64 0, .int .i64 0, .slice none 0 0, .slice none 0 0, .int .i64 0, .int .i64 0, .int .i64 0, .int .i64 0, .int .i64 0, .int .i64 0, .int .i64 0]) := by kernel_rfl
theorem zv61 : zeroV Tryz.prog 61 = some (.agg #[.int .i64 0, .slice none 0 0]) := by kernel_rfl
theorem zv85 : zeroV Tryz.prog 85 = some (.agg #[.int .i64 0, .int .i64 0, .int .i64 0, .int .i64 0, .int .i64 0, .int .i64 0, .int .i64 0, .int .i64 0, .int .i64 0, .bool false, .slice none 0 0, .slice none 0 0, .slice none 0 0]) := by kernel_rfl
theorem zv87 : zeroV Tryz.prog 87 = some (.agg #[.bool false, .int .i64 0, .int .i64 0, .int .i64 0, .int .i64 0]) := by kernel_rfl
instance : AgC Tryz.prog 109 (some 5) := ⟨ag109⟩
instance : AgC Tryz.prog 114 (some 5) := ⟨ag114⟩
instance : AgC Tryz.prog 131 (some 5) := ⟨ag131⟩
instance : AgC Tryz.prog 135 (some 6) := ⟨ag135⟩
instance : AgC Tryz.prog 137 (some 6) := ⟨ag137⟩
instance : AgC Tryz.prog 166 none := ⟨ag166⟩
instance : AgC Tryz.prog 168 (some 13) := ⟨ag168⟩
instance : AgC Tryz.prog 187 (some 2) := ⟨ag187⟩
instance : AgC Tryz.prog 190 (some 2) := ⟨ag190⟩
instance : AgC Tryz.prog 22 none := ⟨ag22⟩
instance : AgC Tryz.prog 24 (some 1) := ⟨ag24⟩
instance : AgC Tryz.prog 25 none := ⟨ag25⟩
instance : AgC Tryz.prog 26 none := ⟨ag26⟩
instance : AgC Tryz.prog 28 (some 4) := ⟨ag28⟩
instance : AgC Tryz.prog 3 none := ⟨ag3⟩
instance : AgC Tryz.prog 30 (some 5) := ⟨ag30⟩
instance : AgC Tryz.prog 31 none := ⟨ag31⟩
instance : AgC Tryz.prog 33 (some 3) := ⟨ag33⟩
instance : AgC Tryz.prog 35 (some 16) := ⟨ag35⟩
instance : AgC Tryz.prog 38 (some 1) := ⟨ag38⟩
instance : AgC Tryz.prog 39 none := ⟨ag39⟩
instance : AgC Tryz.prog 4 none := ⟨ag4⟩
instance : AgC Tryz.prog 40 none := ⟨ag40⟩
instance : AgC Tryz.prog 41 (some 4) := ⟨ag41⟩
instance : AgC Tryz.prog 43 (some 5) := ⟨ag43⟩
instance : AgC Tryz.prog 44 none := ⟨ag44⟩
instance : AgC Tryz.prog 45 (some 3) := ⟨ag45⟩
instance : AgC Tryz.prog 47 (some 16) := ⟨ag47⟩
instance : AgC Tryz.prog 54 none := ⟨ag54⟩
instance : AgC Tryz.prog 56 (some 2) := ⟨ag56⟩
instance : AgC Tryz.prog 59 none := ⟨ag59⟩
instance : AgC Tryz.prog 61 (some 2) := ⟨ag61⟩
instance : AgC Tryz.prog 83 none := ⟨ag83⟩
instance : AgC Tryz.prog 85 (some 13) := ⟨ag85⟩
instance : AgC Tryz.prog 87 (some 5) := ⟨ag87⟩
instance : FoC Tryz.prog 109 0 0 (some 1) := ⟨fo109_0⟩
instance : FoC Tryz.prog 109 1 1 none := ⟨fo109_1⟩
instance : FoC Tryz.prog 109 2 2 (some 3) := ⟨fo109_2⟩
instance : FoC Tryz.prog 114 0 0 (some 1) := ⟨fo114_0⟩
instance : FoC Tryz.prog 114 1 1 none := ⟨fo114_1⟩
instance : FoC Tryz.prog 114 2 2 (some 3) := ⟨fo114_2⟩
instance : FoC Tryz.prog 131 0 0 none := ⟨fo131_0⟩
instance : FoC Tryz.prog 131 1 1 none := ⟨fo131_1⟩
instance : FoC Tryz.prog 131 2 2 (some 3) := ⟨fo131_2⟩
instance : FoC Tryz.prog 135 0 0 none := ⟨fo135_0⟩
instance : FoC Tryz.prog 135 1 1 none := ⟨fo135_1⟩
instance : FoC Tryz.prog 135 2 2 none := ⟨fo135_2⟩
instance : FoC Tryz.prog 135 3 3 none := ⟨fo135_3⟩
instance : FoC Tryz.prog 135 4 4 none := ⟨fo135_4⟩
instance : FoC Tryz.prog 135 5 5 none := ⟨fo135_5⟩
instance : FoC Tryz.prog 137 0 0 none := ⟨fo137_0⟩
instance : FoC Tryz.prog 137 1 1 none := ⟨fo137_1⟩
instance : FoC Tryz.prog 137 2 2 none := ⟨fo137_2⟩
instance : FoC Tryz.prog 137 3 3 none := ⟨fo137_3⟩
instance : FoC Tryz.prog 137 4 4 none := ⟨fo137_4⟩
instance : FoC Tryz.prog 137 5 5 none := ⟨fo137_5⟩
instance : FoC Tryz.prog 168 0 0 none := ⟨fo168_0⟩
instance : FoC Tryz.prog 168 1 1 none := ⟨fo168_1⟩
instance : FoC Tryz.prog 168 10 10 none := ⟨fo168_10⟩
instance : FoC Tryz.prog 168 11 11 none := ⟨fo168_11⟩
instance : FoC Tryz.prog 168 12 12 none := ⟨fo168_12⟩
instance : FoC Tryz.prog 168 2 2 none := ⟨fo168_2⟩
instance : FoC Tryz.prog 168 3 3 none := ⟨fo168_3⟩
instance : FoC Tryz.prog 168 4 4 none := ⟨fo168_4⟩
instance : FoC Tryz.prog 168 5 5 none := ⟨fo168_5⟩
instance : FoC Tryz.prog 168 6 6 none := ⟨fo168_6⟩
instance : FoC Tryz.prog 168 7 7 none := ⟨fo168_7⟩
instance : FoC Tryz.prog 168 8 8 none := ⟨fo168_8⟩
instance : FoC Tryz.prog 168 9 9 none := ⟨fo168_9⟩
instance : FoC Tryz.prog 187 0 0 none := ⟨fo187_0⟩
instance : FoC Tryz.prog 187 1 1 none := ⟨fo187_1⟩
instance : FoC Tryz.prog 190 0 0 none := ⟨fo190_0⟩
instance : FoC Tryz.prog 190 1 1 none := ⟨fo190_1⟩
instance : FoC Tryz.prog 24 0 0 none := ⟨fo24_0⟩
instance : FoC Tryz.prog 28 0 0 none := ⟨fo28_0⟩
instance : FoC Tryz.prog 28 1 1 none := ⟨fo28_1⟩
instance : FoC Tryz.prog 28 2 2 none := ⟨fo28_2⟩
instance : FoC Tryz.prog 28 3 3 none := ⟨fo28_3⟩
instance : FoC Tryz.prog 30 0 0 none := ⟨fo30_0⟩
instance : FoC Tryz.prog 30 1 1 (some 4) := ⟨fo30_1⟩
instance : FoC Tryz.prog 33 0 0 none := ⟨fo33_0⟩
instance : FoC Tryz.prog 33 1 1 none := ⟨fo33_1⟩
instance : FoC Tryz.prog 33 2 2 none := ⟨fo33_2⟩
instance : FoC Tryz.prog 35 0 0 (some 1) := ⟨fo35_0⟩
instance : FoC Tryz.prog 35 1 1 none := ⟨fo35_1⟩
instance : FoC Tryz.prog 35 2 2 none := ⟨fo35_2⟩
instance : FoC Tryz.prog 35 3 3 (some 5) := ⟨fo35_3⟩
instance : FoC Tryz.prog 35 4 8 none := ⟨fo35_4⟩
instance : FoC Tryz.prog 35 5 9 none := ⟨fo35_5⟩
instance : FoC Tryz.prog 35 6 10 none := ⟨fo35_6⟩
instance : FoC Tryz.prog 35 7 11 (some 3) := ⟨fo35_7⟩
instance : FoC Tryz.prog 35 8 14 none := ⟨fo35_8⟩
instance : FoC Tryz.prog 35 9 15 none := ⟨fo35_9⟩
instance : FoC Tryz.prog 38 0 0 none := ⟨fo38_0⟩
instance : FoC Tryz.prog 41 0 0 none := ⟨fo41_0⟩
instance : FoC Tryz.prog 41 1 1 none := ⟨fo41_1⟩
instance : FoC Tryz.prog 41 2 2 none := ⟨fo41_2⟩
instance : FoC Tryz.prog 41 3 3 none := ⟨fo41_3⟩
instance : FoC Tryz.prog 43 0 0 none := ⟨fo43_0⟩
instance : FoC Tryz.prog 43 1 1 (some 4) := ⟨fo43_1⟩
instance : FoC Tryz.prog 45 0 0 none := ⟨fo45_0⟩
instance : FoC Tryz.prog 45 1 1 none := ⟨fo45_1⟩
instance : FoC Tryz.prog 45 2 2 none := ⟨fo45_2⟩
instance : FoC Tryz.prog 47 0 0 (some 1) := ⟨fo47_0⟩
instance : FoC Tryz.prog 47 1 1 none := ⟨fo47_1⟩
instance : FoC Tryz.prog 47 2 2 none := ⟨fo47_2⟩
instance : FoC Tryz.prog 47 3 3 (some 5) := ⟨fo47_3⟩
instance : FoC Tryz.prog 47 4 8 none := ⟨fo47_4⟩
instance : FoC Tryz.prog 47 5 9 none := ⟨fo47_5⟩
instance : FoC Tryz.prog 47 6 10 none := ⟨fo47_6⟩
instance : FoC Tryz.prog 47 7 11 (some 3) := ⟨fo47_7⟩
instance : FoC Tryz.prog 47 8 14 none := ⟨fo47_8⟩
instance : FoC Tryz.prog 47 9 15 none := ⟨fo47_9⟩
instance : FoC Tryz.prog 56 0 0 none := ⟨fo56_0⟩
instance : FoC Tryz.prog 56 1 1 none := ⟨fo56_1⟩
instance : FoC Tryz.prog 61 0 0 none := ⟨fo61_0⟩
instance : FoC Tryz.prog 61 1 1 none := ⟨fo61_1⟩
instance : FoC Tryz.prog 85 0 0 none := ⟨fo85_0⟩
instance : FoC Tryz.prog 85 1 1 none := ⟨fo85_1⟩
instance : FoC Tryz.prog 85 10 10 none := ⟨fo85_10⟩
instance : FoC Tryz.prog 85 11 11 none := ⟨fo85_11⟩
instance : FoC Tryz.prog 85 12 12 none := ⟨fo85_12⟩
instance : FoC Tryz.prog 85 2 2 none := ⟨fo85_2⟩
instance : FoC Tryz.prog 85 3 3 none := ⟨fo85_3⟩
instance : FoC Tryz.prog 85 4 4 none := ⟨fo85_4⟩
instance : FoC Tryz.prog 85 5 5 none := ⟨fo85_5⟩
instance : FoC Tryz.prog 85 6 6 none := ⟨fo85_6⟩
instance : FoC Tryz.prog 85 7 7 none := ⟨fo85_7⟩
instance : FoC Tryz.prog 85 8 8 none := ⟨fo85_8⟩
instance : FoC Tryz.prog 85 9 9 none := ⟨fo85_9⟩
instance : FoC Tryz.prog 87 0 0 none := ⟨fo87_0⟩
instance : FoC Tryz.prog 87 1 1 none := ⟨fo87_1⟩
instance : FoC Tryz.prog 87 2 2 (some 3) := ⟨fo87_2⟩
instance : PlC Tryz.prog 10 := ⟨pl10⟩
instance : PlC Tryz.prog 100 := ⟨pl100⟩
instance : PlC Tryz.prog 101 := ⟨pl101⟩
instance : PlC Tryz.prog 102 := ⟨pl102⟩
instance : PlC Tryz.prog 103 := ⟨pl103⟩
instance : PlC Tryz.prog 104 := ⟨pl104⟩
instance : PlC Tryz.prog 105 := ⟨pl105⟩
instance : PlC Tryz.prog 106 := ⟨pl106⟩
instance : PlC Tryz.prog 107 := ⟨pl107⟩
instance : PlC Tryz.prog 108 := ⟨pl108⟩
instance : PlC Tryz.prog 109 := ⟨pl109⟩
instance : PlC Tryz.prog 11 := ⟨pl11⟩
instance : PlC Tryz.prog 110 := ⟨pl110⟩
instance : PlC Tryz.prog 111 := ⟨pl111⟩
instance : PlC Tryz.prog 112 := ⟨pl112⟩
instance : PlC Tryz.prog 113 := ⟨pl113⟩
instance : PlC Tryz.prog 114 := ⟨pl114⟩
instance : PlC Tryz.prog 115 := ⟨pl115⟩
instance : PlC Tryz.prog 116 := ⟨pl116⟩
instance : PlC Tryz.prog 117 := ⟨pl117⟩
instance : PlC Tryz.prog 118 := ⟨pl118⟩
instance : PlC Tryz.prog 119 := ⟨pl119⟩
instance : PlC Tryz.prog 12 := ⟨pl12⟩
instance : PlC Tryz.prog 120 := ⟨pl120⟩
instance : PlC Tryz.prog 121 := ⟨pl121⟩
instance : PlC Tryz.prog 122 := ⟨pl122⟩
instance : PlC Tryz.prog 123 := ⟨pl123⟩
instance : PlC Tryz.prog 124 := ⟨pl124⟩
instance : PlC Tryz.prog 125 := ⟨pl125⟩
instance : PlC Tryz.prog 126 := ⟨pl126⟩
instance : PlC Tryz.prog 127 := ⟨pl127⟩
instance : PlC Tryz.prog 128 := ⟨pl128⟩
instance : PlC Tryz.prog 129 := ⟨pl129⟩
instance : PlC Tryz.prog 13 := ⟨pl13⟩
instance : PlC Tryz.prog 130 := ⟨pl130⟩
instance : PlC Tryz.prog 131 := ⟨pl131⟩
instance : PlC Tryz.prog 132 := ⟨pl132⟩
instance : PlC Tryz.prog 133 := ⟨pl133⟩
instance : PlC Tryz.prog 134 := ⟨pl134⟩
instance : PlC Tryz.prog 135 := ⟨pl135⟩
instance : PlC Tryz.prog 136 := ⟨pl136⟩
instance : PlC Tryz.prog 137 := ⟨pl137⟩
instance : PlC Tryz.prog 138 := ⟨pl138⟩
instance : PlC Tryz.prog 139 := ⟨pl139⟩
instance : PlC Tryz.prog 14 := ⟨pl14⟩
instance : PlC Tryz.prog 140 := ⟨pl140⟩
instance : PlC Tryz.prog 141 := ⟨pl141⟩
instance : PlC Tryz.prog 142 := ⟨pl142⟩
instance : PlC Tryz.prog 143 := ⟨pl143⟩
instance : PlC Tryz.prog 144 := ⟨pl144⟩
instance : PlC Tryz.prog 145 := ⟨pl145⟩
instance : PlC Tryz.prog 146 := ⟨pl146⟩
instance : PlC Tryz.prog 147 := ⟨pl147⟩
instance : PlC Tryz.prog 148 := ⟨pl148⟩
instance : PlC Tryz.prog 149 := ⟨pl149⟩
instance : PlC Tryz.prog 15 := ⟨pl15⟩
instance : PlC Tryz.prog 150 := ⟨pl150⟩
instance : PlC Tryz.prog 151 := ⟨pl151⟩
instance : PlC Tryz.prog 152 := ⟨pl152⟩
instance : PlC Tryz.prog 153 := ⟨pl153⟩
instance : PlC Tryz.prog 154 := ⟨pl154⟩
instance : PlC Tryz.prog 155 := ⟨pl155⟩
instance : PlC Tryz.prog 156 := ⟨pl156⟩
instance : PlC Tryz.prog 157 := ⟨pl157⟩
instance : PlC Tryz.prog 158 := ⟨pl158⟩
instance : PlC Tryz.prog 159 := ⟨pl159⟩
instance : PlC Tryz.prog 16 := ⟨pl16⟩
instance : PlC Tryz.prog 160 := ⟨pl160⟩
instance : PlC Tryz.prog 161 := ⟨pl161⟩
instance : PlC Tryz.prog 162 := ⟨pl162⟩
instance : PlC Tryz.prog 163 := ⟨pl163⟩
instance : PlC Tryz.prog 164 := ⟨pl164⟩
instance : PlC Tryz.prog 165 := ⟨pl165⟩
instance : PlC Tryz.prog 166 := ⟨pl166⟩
instance : PlC Tryz.prog 167 := ⟨pl167⟩
instance : PlC Tryz.prog 168 := ⟨pl168⟩
instance : PlC Tryz.prog 169 := ⟨pl169⟩
instance : PlC Tryz.prog 17 := ⟨pl17⟩
instance : PlC Tryz.prog 170 := ⟨pl170⟩
instance : PlC Tryz.prog 171 := ⟨pl171⟩
instance : PlC Tryz.prog 172 := ⟨pl172⟩
instance : PlC Tryz.prog 173 := ⟨pl173⟩
instance : PlC Tryz.prog 174 := ⟨pl174⟩
instance : PlC Tryz.prog 175 := ⟨pl175⟩
instance : PlC Tryz.prog 176 := ⟨pl176⟩
instance : PlC Tryz.prog 177 := ⟨pl177⟩
instance : PlC Tryz.prog 178 := ⟨pl178⟩
instance : PlC Tryz.prog 179 := ⟨pl179⟩
instance : PlC Tryz.prog 18 := ⟨pl18⟩
instance : PlC Tryz.prog 180 := ⟨pl180⟩
instance : PlC Tryz.prog 181 := ⟨pl181⟩
instance : PlC Tryz.prog 182 := ⟨pl182⟩
instance : PlC Tryz.prog 183 := ⟨pl183⟩
instance : PlC Tryz.prog 184 := ⟨pl184⟩
instance : PlC Tryz.prog 185 := ⟨pl185⟩
instance : PlC Tryz.prog 186 := ⟨pl186⟩
instance : PlC Tryz.prog 187 := ⟨pl187⟩
instance : PlC Tryz.prog 188 := ⟨pl188⟩
instance : PlC Tryz.prog 19 := ⟨pl19⟩
instance : PlC Tryz.prog 20 := ⟨pl20⟩
instance : PlC Tryz.prog 21 := ⟨pl21⟩
instance : PlC Tryz.prog 22 := ⟨pl22⟩
instance : PlC Tryz.prog 23 := ⟨pl23⟩
instance : PlC Tryz.prog 24 := ⟨pl24⟩
instance : PlC Tryz.prog 25 := ⟨pl25⟩
instance : PlC Tryz.prog 26 := ⟨pl26⟩
instance : PlC Tryz.prog 27 := ⟨pl27⟩
instance : PlC Tryz.prog 28 := ⟨pl28⟩
instance : PlC Tryz.prog 29 := ⟨pl29⟩
instance : PlC Tryz.prog 30 := ⟨pl30⟩
instance : PlC Tryz.prog 31 := ⟨pl31⟩
instance : PlC Tryz.prog 32 := ⟨pl32⟩
instance : PlC Tryz.prog 33 := ⟨pl33⟩
instance : PlC Tryz.prog 34 := ⟨pl34⟩
instance : PlC Tryz.prog 35 := ⟨pl35⟩
instance : PlC Tryz.prog 36 := ⟨pl36⟩
instance : PlC Tryz.prog 37 := ⟨pl37⟩
instance : PlC Tryz.prog 38 := ⟨pl38⟩
instance : PlC Tryz.prog 39 := ⟨pl39⟩
instance : PlC Tryz.prog 40 := ⟨pl40⟩
instance : PlC Tryz.prog 41 := ⟨pl41⟩
instance : PlC Tryz.prog 42 := ⟨pl42⟩
instance : PlC Tryz.prog 43 := ⟨pl43⟩
instance : PlC Tryz.prog 44 := ⟨pl44⟩
instance : PlC Tryz.prog 45 := ⟨pl45⟩
instance : PlC Tryz.prog 46 := ⟨pl46⟩
instance : PlC Tryz.prog 47 := ⟨pl47⟩
instance : PlC Tryz.prog 48 := ⟨pl48⟩
instance : PlC Tryz.prog 49 := ⟨pl49⟩
instance : PlC Tryz.prog 50 := ⟨pl50⟩
instance : PlC Tryz.prog 51 := ⟨pl51⟩
instance : PlC Tryz.prog 52 := ⟨pl52⟩
instance : PlC Tryz.prog 53 := ⟨pl53⟩
instance : PlC Tryz.prog 54 := ⟨pl54⟩
instance : PlC Tryz.prog 55 := ⟨pl55⟩
instance : PlC Tryz.prog 56 := ⟨pl56⟩
instance : PlC Tryz.prog 57 := ⟨pl57⟩
instance : PlC Tryz.prog 58 := ⟨pl58⟩
instance : PlC Tryz.prog 59 := ⟨pl59⟩
instance : PlC Tryz.prog 60 := ⟨pl60⟩
instance : PlC Tryz.prog 61 := ⟨pl61⟩
instance : PlC Tryz.prog 62 := ⟨pl62⟩
instance : PlC Tryz.prog 63 := ⟨pl63⟩
instance : PlC Tryz.prog 64 := ⟨pl64⟩
instance : PlC Tryz.prog 65 := ⟨pl65⟩
instance : PlC Tryz.prog 66 := ⟨pl66⟩
instance : PlC Tryz.prog 67 := ⟨pl67⟩
instance : PlC Tryz.prog 68 := ⟨pl68⟩
instance : PlC Tryz.prog 69 := ⟨pl69⟩
instance : PlC Tryz.prog 70 := ⟨pl70⟩
instance : PlC Tryz.prog 71 := ⟨pl71⟩
instance : PlC Tryz.prog 72 := ⟨pl72⟩
instance : PlC Tryz.prog 73 := ⟨pl73⟩
instance : PlC Tryz.prog 74 := ⟨pl74⟩
instance : PlC Tryz.prog 75 := ⟨pl75⟩
instance : PlC Tryz.prog 76 := ⟨pl76⟩
instance : PlC Tryz.prog 77 := ⟨pl77⟩
instance : PlC Tryz.prog 78 := ⟨pl78⟩
instance : PlC Tryz.prog 79 := ⟨pl79⟩
instance : PlC Tryz.prog 8 := ⟨pl8⟩
instance : PlC Tryz.prog 80 := ⟨pl80⟩
instance : PlC Tryz.prog 81 := ⟨pl81⟩
instance : PlC Tryz.prog 82 := ⟨pl82⟩
instance : PlC Tryz.prog 83 := ⟨pl83⟩
instance : PlC Tryz.prog 84 := ⟨pl84⟩
instance : PlC Tryz.prog 85 := ⟨pl85⟩
instance : PlC Tryz.prog 86 := ⟨pl86⟩
instance : PlC Tryz.prog 87 := ⟨pl87⟩
instance : PlC Tryz.prog 88 := ⟨pl88⟩
instance : PlC Tryz.prog 89 := ⟨pl89⟩
instance : PlC Tryz.prog 9 := ⟨pl9⟩
instance : PlC Tryz.prog 90 := ⟨pl90⟩
instance : PlC Tryz.prog 91 := ⟨pl91⟩
instance : PlC Tryz.prog 92 := ⟨pl92⟩
instance : PlC Tryz.prog 93 := ⟨pl93⟩
instance : PlC Tryz.prog 94 := ⟨pl94⟩
instance : PlC Tryz.prog 95 := ⟨pl95⟩
instance : PlC Tryz.prog 96 := ⟨pl96⟩
instance : PlC Tryz.prog 97 := ⟨pl97⟩
instance : PlC Tryz.prog 98 := ⟨pl98⟩
instance : PlC Tryz.prog 99 := ⟨pl99⟩
instance : ZvC Tryz.prog 114 := ⟨_, zv114⟩
instance : ZvC Tryz.prog 135 := ⟨_, zv135⟩
instance : ZvC Tryz.prog 187 := ⟨_, zv187⟩
instance : ZvC Tryz.prog 38 := ⟨_, zv38⟩
instance : ZvC Tryz.prog 41 := ⟨_, zv41⟩
instance : ZvC Tryz.prog 43 := ⟨_, zv43⟩
instance : ZvC Tryz.prog 45 := ⟨_, zv45⟩
instance : ZvC Tryz.prog 47 := ⟨_, zv47⟩
instance : ZvC Tryz.prog 61 := ⟨_, zv61⟩
instance : ZvC Tryz.prog 85 := ⟨_, zv85⟩
instance : ZvC Tryz.prog 87 := ⟨_, zv87⟩
instance : UnC Tryz.prog 22 (.slice 3) := ⟨Tryz.underlying22⟩
instance : UnC Tryz.prog 25 (.slice 131) := ⟨Tryz.underlying25⟩
instance : UnC Tryz.prog 26 (.slice 168) := ⟨Tryz.underlying26⟩
instance : UnC Tryz.prog 31 (.slice 137) := ⟨Tryz.underlying31⟩
instance : UnC Tryz.prog 39 (.slice 87) := ⟨Tryz.underlying39⟩
instance : UnC Tryz.prog 40 (.slice 85) := ⟨Tryz.underlying40⟩
instance : UnC Tryz.prog 44 (.slice 135) := ⟨Tryz.underlying44⟩
instance : UnC Tryz.prog 54 (.slice 35) := ⟨Tryz.underlying54⟩
instance : UnC Tryz.prog 59 (.slice 47) := ⟨Tryz.underlying59⟩
instance : UnC Tryz.prog 65 (.slice 109) := ⟨Tryz.underlying65⟩
instance : UnC Tryz.prog 68 (.slice 114) := ⟨Tryz.underlying68⟩
instance : UnC Tryz.prog 83 (.slice 187) := ⟨Tryz.underlying83⟩
instance : UnC Tryz.prog 126 (.slice 4) := ⟨Tryz.underlying126⟩
instance : UnC Tryz.prog 166 (.slice 190) := ⟨Tryz.underlying166⟩
end Go.Kx
