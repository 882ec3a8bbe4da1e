/- Closed facts of the program's types and functions. Printed by drive.py. -/
import Derived.Test.YtdjpppkdngmeaaaProg
import Derived.Test.YtdjpppkdngmeaaaDat
namespace Go.Kx
open Go Go.RowKit Go.Proofs
set_option maxRecDepth 10000
set_option maxHeartbeats 2000000
set_option linter.unusedVariables false
set_option linter.unusedSimpArgs false
theorem ag103 : aggV Try.prog 103 = some (some 6) := by kernel_rfl
theorem ag105 : aggV Try.prog 105 = some (some 9) := by kernel_rfl
theorem ag107 : aggV Try.prog 107 = some (some 6) := by kernel_rfl
theorem ag109 : aggV Try.prog 109 = some (some 9) := by kernel_rfl
theorem ag121 : aggV Try.prog 121 = some none := by kernel_rfl
theorem ag123 : aggV Try.prog 123 = some (some 13) := by kernel_rfl
theorem ag156 : aggV Try.prog 156 = some (some 5) := by kernel_rfl
theorem ag158 : aggV Try.prog 158 = some (some 6) := by kernel_rfl
theorem ag166 : aggV Try.prog 166 = some (some 5) := by kernel_rfl
theorem ag170 : aggV Try.prog 170 = some (some 6) := by kernel_rfl
theorem ag189 : aggV Try.prog 189 = some none := by kernel_rfl
theorem ag191 : aggV Try.prog 191 = some (some 13) := by kernel_rfl
theorem ag199 : aggV Try.prog 199 = some (some 2) := by kernel_rfl
theorem ag206 : aggV Try.prog 206 = some (some 2) := by kernel_rfl
theorem ag24 : aggV Try.prog 24 = some none := by kernel_rfl
theorem ag26 : aggV Try.prog 26 = some (some 1) := by kernel_rfl
theorem ag3 : aggV Try.prog 3 = some none := by kernel_rfl
theorem ag35 : aggV Try.prog 35 = some (some 1) := by kernel_rfl
theorem ag4 : aggV Try.prog 4 = some none := by kernel_rfl
theorem ag44 : aggV Try.prog 44 = some none := by kernel_rfl
theorem ag46 : aggV Try.prog 46 = some (some 2) := by kernel_rfl
theorem ag49 : aggV Try.prog 49 = some none := by kernel_rfl
theorem ag51 : aggV Try.prog 51 = some (some 2) := by kernel_rfl
theorem ag54 : aggV Try.prog 54 = some none := by kernel_rfl
theorem ag55 : aggV Try.prog 55 = some none := by kernel_rfl
theorem ag57 : aggV Try.prog 57 = some (some 4) := by kernel_rfl
theorem ag59 : aggV Try.prog 59 = some (some 5) := by kernel_rfl
theorem ag60 : aggV Try.prog 60 = some none := by kernel_rfl
theorem ag62 : aggV Try.prog 62 = some (some 3) := by kernel_rfl
theorem ag64 : aggV Try.prog 64 = some (some 16) := by kernel_rfl
theorem ag67 : aggV Try.prog 67 = some none := by kernel_rfl
theorem ag68 : aggV Try.prog 68 = some none := by kernel_rfl
theorem ag69 : aggV Try.prog 69 = some (some 4) := by kernel_rfl
theorem ag71 : aggV Try.prog 71 = some (some 5) := by kernel_rfl
theorem ag72 : aggV Try.prog 72 = some none := by kernel_rfl
theorem ag73 : aggV Try.prog 73 = some (some 3) := by kernel_rfl
theorem ag75 : aggV Try.prog 75 = some (some 16) := by kernel_rfl
theorem ag89 : aggV Try.prog 89 = some (some 5) := by kernel_rfl
theorem ag94 : aggV Try.prog 94 = some (some 5) := by kernel_rfl
theorem eg156 : Program.eqGuardType Try.prog Try.prog.depth 156 = false := by kernel_rfl
theorem eg158 : Program.eqGuardType Try.prog Try.prog.depth 158 = false := by kernel_rfl
theorem eg199 : Program.eqGuardType Try.prog Try.prog.depth 199 = false := by kernel_rfl
theorem eg73 : Program.eqGuardType Try.prog Try.prog.depth 73 = false := by kernel_rfl
theorem eq156 : ∀ (a b : DRes) (w : World), (Op.equalIn 10000 156 (.agg #[.bool a.live, .int .i64 a.parent, .int .i64 a.bal.pages, .int .i64 a.bal.rent, .int .i64 a.bal.cpu]) (.agg #[.bool b.live, .int .i64 b.parent, .int .i64 b.bal.pages, .int .i64 b.bal.rent, .int .i64 b.bal.cpu])).run Try.prog w = .ok (decide (a = b)) w := fun a b w => EqT.top (n := 2) (EqT.agg (n := 1) Try.underlying156 (by kernel_rfl) (EqF.one rfl ag4 rfl rfl (EqT.bool Try.underlying4) (EqF.one rfl ag3 rfl rfl (EqT.int Try.underlying3) (EqF.more rfl ag73 (EqT.agg (n := 0) Try.underlying73 (by kernel_rfl) (EqF.one rfl ag3 rfl rfl (EqT.int Try.underlying3) (EqF.one rfl ag3 rfl rfl (EqT.int Try.underlying3) (EqF.one rfl ag3 rfl rfl (EqT.int Try.underlying3) EqF.nil)))) EqF.nil)))) (by decide) (by
  obtain ⟨x0, x1, ⟨x2, x3, x4⟩⟩ := a
  obtain ⟨y0, y1, ⟨y2, y3, y4⟩⟩ := b
  simp [DRes.mk.injEq, DAmt.mk.injEq, Bool.beq_eq_decide_eq, Bool.decide_and]) w
theorem eq158 : ∀ (a b : DTap) (w : World), (Op.equalIn 10000 158 (.agg #[.int .i64 a.res, .int .i64 a.toPart, .int .i64 a.toRes, .int .i64 a.which, .int .i64 a.kind, .int .i64 a.rate]) (.agg #[.int .i64 b.res, .int .i64 b.toPart, .int .i64 b.toRes, .int .i64 b.which, .int .i64 b.kind, .int .i64 b.rate])).run Try.prog w = .ok (decide (a = b)) w := fun a b w => EqT.top (n := 1) (EqT.agg (n := 0) Try.underlying158 (by kernel_rfl) (EqF.one rfl ag3 rfl rfl (EqT.int Try.underlying3) (EqF.one rfl ag3 rfl rfl (EqT.int Try.underlying3) (EqF.one rfl ag3 rfl rfl (EqT.int Try.underlying3) (EqF.one rfl ag3 rfl rfl (EqT.int Try.underlying3) (EqF.one rfl ag3 rfl rfl (EqT.int Try.underlying3) (EqF.one rfl ag3 rfl rfl (EqT.int Try.underlying3) EqF.nil))))))) (by decide) (by
  obtain ⟨x0, x1, x2, x3, x4, x5⟩ := a
  obtain ⟨y0, y1, y2, y3, y4, y5⟩ := b
  simp [DTap.mk.injEq, Bool.beq_eq_decide_eq, Bool.decide_and]) w
theorem eq199 : ∀ (a b : DMsg) (w : World), (Op.equalIn 10000 199 (.agg #[.int .i64 a.src, .int .i64 a.n]) (.agg #[.int .i64 b.src, .int .i64 b.n])).run Try.prog w = .ok (decide (a = b)) w := fun a b w => EqT.top (n := 1) (EqT.agg (n := 0) Try.underlying199 (by kernel_rfl) (EqF.one rfl ag3 rfl rfl (EqT.int Try.underlying3) (EqF.one rfl ag3 rfl rfl (EqT.int Try.underlying3) EqF.nil))) (by decide) (by
  obtain ⟨x0, x1⟩ := a
  obtain ⟨y0, y1⟩ := b
  simp [DMsg.mk.injEq, Bool.beq_eq_decide_eq, Bool.decide_and]) w
theorem eq73 : ∀ (a b : DAmt) (w : World), (Op.equalIn 10000 73 (.agg #[.int .i64 a.pages, .int .i64 a.rent, .int .i64 a.cpu]) (.agg #[.int .i64 b.pages, .int .i64 b.rent, .int .i64 b.cpu])).run Try.prog w = .ok (decide (a = b)) w := fun a b w => EqT.top (n := 1) (EqT.agg (n := 0) Try.underlying73 (by kernel_rfl) (EqF.one rfl ag3 rfl rfl (EqT.int Try.underlying3) (EqF.one rfl ag3 rfl rfl (EqT.int Try.underlying3) (EqF.one rfl ag3 rfl rfl (EqT.int Try.underlying3) EqF.nil)))) (by decide) (by
  obtain ⟨x0, x1, x2⟩ := a
  obtain ⟨y0, y1, y2⟩ := b
  simp [DAmt.mk.injEq, Bool.beq_eq_decide_eq, Bool.decide_and]) w
theorem fo103_0 : fo Try.prog 103 0 = some (0, none) := by kernel_rfl
theorem fo103_1 : fo Try.prog 103 1 = some (1, none) := by kernel_rfl
theorem fo103_2 : fo Try.prog 103 2 = some (2, none) := by kernel_rfl
theorem fo103_3 : fo Try.prog 103 3 = some (3, none) := by kernel_rfl
theorem fo103_4 : fo Try.prog 103 4 = some (4, none) := by kernel_rfl
theorem fo103_5 : fo Try.prog 103 5 = some (5, none) := by kernel_rfl
theorem fo105_0 : fo Try.prog 105 0 = some (0, none) := by kernel_rfl
theorem fo105_1 : fo Try.prog 105 1 = some (1, none) := by kernel_rfl
theorem fo105_2 : fo Try.prog 105 2 = some (2, none) := by kernel_rfl
theorem fo105_3 : fo Try.prog 105 3 = some (3, some 6) := by kernel_rfl
theorem fo107_0 : fo Try.prog 107 0 = some (0, none) := by kernel_rfl
theorem fo107_1 : fo Try.prog 107 1 = some (1, none) := by kernel_rfl
theorem fo107_2 : fo Try.prog 107 2 = some (2, none) := by kernel_rfl
theorem fo107_3 : fo Try.prog 107 3 = some (3, none) := by kernel_rfl
theorem fo107_4 : fo Try.prog 107 4 = some (4, none) := by kernel_rfl
theorem fo107_5 : fo Try.prog 107 5 = some (5, none) := by kernel_rfl
theorem fo109_0 : fo Try.prog 109 0 = some (0, none) := by kernel_rfl
theorem fo109_1 : fo Try.prog 109 1 = some (1, none) := by kernel_rfl
theorem fo109_2 : fo Try.prog 109 2 = some (2, none) := by kernel_rfl
theorem fo109_3 : fo Try.prog 109 3 = some (3, some 6) := by kernel_rfl
theorem fo123_0 : fo Try.prog 123 0 = some (0, none) := by kernel_rfl
theorem fo123_1 : fo Try.prog 123 1 = some (1, none) := by kernel_rfl
theorem fo123_10 : fo Try.prog 123 10 = some (10, none) := by kernel_rfl
theorem fo123_11 : fo Try.prog 123 11 = some (11, none) := by kernel_rfl
theorem fo123_12 : fo Try.prog 123 12 = some (12, none) := by kernel_rfl
theorem fo123_2 : fo Try.prog 123 2 = some (2, none) := by kernel_rfl
theorem fo123_3 : fo Try.prog 123 3 = some (3, none) := by kernel_rfl
theorem fo123_4 : fo Try.prog 123 4 = some (4, none) := by kernel_rfl
theorem fo123_5 : fo Try.prog 123 5 = some (5, none) := by kernel_rfl
theorem fo123_6 : fo Try.prog 123 6 = some (6, none) := by kernel_rfl
theorem fo123_7 : fo Try.prog 123 7 = some (7, none) := by kernel_rfl
theorem fo123_8 : fo Try.prog 123 8 = some (8, none) := by kernel_rfl
theorem fo123_9 : fo Try.prog 123 9 = some (9, none) := by kernel_rfl
theorem fo156_0 : fo Try.prog 156 0 = some (0, none) := by kernel_rfl
theorem fo156_1 : fo Try.prog 156 1 = some (1, none) := by kernel_rfl
theorem fo156_2 : fo Try.prog 156 2 = some (2, some 3) := by kernel_rfl
theorem fo158_0 : fo Try.prog 158 0 = some (0, none) := by kernel_rfl
theorem fo158_1 : fo Try.prog 158 1 = some (1, none) := by kernel_rfl
theorem fo158_2 : fo Try.prog 158 2 = some (2, none) := by kernel_rfl
theorem fo158_3 : fo Try.prog 158 3 = some (3, none) := by kernel_rfl
theorem fo158_4 : fo Try.prog 158 4 = some (4, none) := by kernel_rfl
theorem fo158_5 : fo Try.prog 158 5 = some (5, none) := by kernel_rfl
theorem fo166_0 : fo Try.prog 166 0 = some (0, none) := by kernel_rfl
theorem fo166_1 : fo Try.prog 166 1 = some (1, none) := by kernel_rfl
theorem fo166_2 : fo Try.prog 166 2 = some (2, some 3) := by kernel_rfl
theorem fo170_0 : fo Try.prog 170 0 = some (0, none) := by kernel_rfl
theorem fo170_1 : fo Try.prog 170 1 = some (1, none) := by kernel_rfl
theorem fo170_2 : fo Try.prog 170 2 = some (2, none) := by kernel_rfl
theorem fo170_3 : fo Try.prog 170 3 = some (3, none) := by kernel_rfl
theorem fo170_4 : fo Try.prog 170 4 = some (4, none) := by kernel_rfl
theorem fo170_5 : fo Try.prog 170 5 = some (5, none) := by kernel_rfl
theorem fo191_0 : fo Try.prog 191 0 = some (0, none) := by kernel_rfl
theorem fo191_1 : fo Try.prog 191 1 = some (1, none) := by kernel_rfl
theorem fo191_10 : fo Try.prog 191 10 = some (10, none) := by kernel_rfl
theorem fo191_11 : fo Try.prog 191 11 = some (11, none) := by kernel_rfl
theorem fo191_12 : fo Try.prog 191 12 = some (12, none) := by kernel_rfl
theorem fo191_2 : fo Try.prog 191 2 = some (2, none) := by kernel_rfl
theorem fo191_3 : fo Try.prog 191 3 = some (3, none) := by kernel_rfl
theorem fo191_4 : fo Try.prog 191 4 = some (4, none) := by kernel_rfl
theorem fo191_5 : fo Try.prog 191 5 = some (5, none) := by kernel_rfl
theorem fo191_6 : fo Try.prog 191 6 = some (6, none) := by kernel_rfl
theorem fo191_7 : fo Try.prog 191 7 = some (7, none) := by kernel_rfl
theorem fo191_8 : fo Try.prog 191 8 = some (8, none) := by kernel_rfl
theorem fo191_9 : fo Try.prog 191 9 = some (9, none) := by kernel_rfl
theorem fo199_0 : fo Try.prog 199 0 = some (0, none) := by kernel_rfl
theorem fo199_1 : fo Try.prog 199 1 = some (1, none) := by kernel_rfl
theorem fo206_0 : fo Try.prog 206 0 = some (0, none) := by kernel_rfl
theorem fo206_1 : fo Try.prog 206 1 = some (1, none) := by kernel_rfl
theorem fo26_0 : fo Try.prog 26 0 = some (0, none) := by kernel_rfl
theorem fo35_0 : fo Try.prog 35 0 = some (0, none) := by kernel_rfl
theorem fo46_0 : fo Try.prog 46 0 = some (0, none) := by kernel_rfl
theorem fo46_1 : fo Try.prog 46 1 = some (1, none) := by kernel_rfl
theorem fo51_0 : fo Try.prog 51 0 = some (0, none) := by kernel_rfl
theorem fo51_1 : fo Try.prog 51 1 = some (1, none) := by kernel_rfl
theorem fo57_0 : fo Try.prog 57 0 = some (0, none) := by kernel_rfl
theorem fo57_1 : fo Try.prog 57 1 = some (1, none) := by kernel_rfl
theorem fo57_2 : fo Try.prog 57 2 = some (2, none) := by kernel_rfl
theorem fo57_3 : fo Try.prog 57 3 = some (3, none) := by kernel_rfl
theorem fo59_0 : fo Try.prog 59 0 = some (0, none) := by kernel_rfl
theorem fo59_1 : fo Try.prog 59 1 = some (1, some 4) := by kernel_rfl
theorem fo62_0 : fo Try.prog 62 0 = some (0, none) := by kernel_rfl
theorem fo62_1 : fo Try.prog 62 1 = some (1, none) := by kernel_rfl
theorem fo62_2 : fo Try.prog 62 2 = some (2, none) := by kernel_rfl
theorem fo64_0 : fo Try.prog 64 0 = some (0, some 1) := by kernel_rfl
theorem fo64_1 : fo Try.prog 64 1 = some (1, none) := by kernel_rfl
theorem fo64_2 : fo Try.prog 64 2 = some (2, none) := by kernel_rfl
theorem fo64_3 : fo Try.prog 64 3 = some (3, some 5) := by kernel_rfl
theorem fo64_4 : fo Try.prog 64 4 = some (8, none) := by kernel_rfl
theorem fo64_5 : fo Try.prog 64 5 = some (9, none) := by kernel_rfl
theorem fo64_6 : fo Try.prog 64 6 = some (10, none) := by kernel_rfl
theorem fo64_7 : fo Try.prog 64 7 = some (11, some 3) := by kernel_rfl
theorem fo64_8 : fo Try.prog 64 8 = some (14, none) := by kernel_rfl
theorem fo64_9 : fo Try.prog 64 9 = some (15, none) := by kernel_rfl
theorem fo69_0 : fo Try.prog 69 0 = some (0, none) := by kernel_rfl
theorem fo69_1 : fo Try.prog 69 1 = some (1, none) := by kernel_rfl
theorem fo69_2 : fo Try.prog 69 2 = some (2, none) := by kernel_rfl
theorem fo69_3 : fo Try.prog 69 3 = some (3, none) := by kernel_rfl
theorem fo71_0 : fo Try.prog 71 0 = some (0, none) := by kernel_rfl
theorem fo71_1 : fo Try.prog 71 1 = some (1, some 4) := by kernel_rfl
theorem fo73_0 : fo Try.prog 73 0 = some (0, none) := by kernel_rfl
theorem fo73_1 : fo Try.prog 73 1 = some (1, none) := by kernel_rfl
theorem fo73_2 : fo Try.prog 73 2 = some (2, none) := by kernel_rfl
theorem fo75_0 : fo Try.prog 75 0 = some (0, some 1) := by kernel_rfl
theorem fo75_1 : fo Try.prog 75 1 = some (1, none) := by kernel_rfl
theorem fo75_2 : fo Try.prog 75 2 = some (2, none) := by kernel_rfl
theorem fo75_3 : fo Try.prog 75 3 = some (3, some 5) := by kernel_rfl
theorem fo75_4 : fo Try.prog 75 4 = some (8, none) := by kernel_rfl
theorem fo75_5 : fo Try.prog 75 5 = some (9, none) := by kernel_rfl
theorem fo75_6 : fo Try.prog 75 6 = some (10, none) := by kernel_rfl
theorem fo75_7 : fo Try.prog 75 7 = some (11, some 3) := by kernel_rfl
theorem fo75_8 : fo Try.prog 75 8 = some (14, none) := by kernel_rfl
theorem fo75_9 : fo Try.prog 75 9 = some (15, none) := by kernel_rfl
theorem fo89_0 : fo Try.prog 89 0 = some (0, some 1) := by kernel_rfl
theorem fo89_1 : fo Try.prog 89 1 = some (1, none) := by kernel_rfl
theorem fo89_2 : fo Try.prog 89 2 = some (2, some 3) := by kernel_rfl
theorem fo94_0 : fo Try.prog 94 0 = some (0, some 1) := by kernel_rfl
theorem fo94_1 : fo Try.prog 94 1 = some (1, none) := by kernel_rfl
theorem fo94_2 : fo Try.prog 94 2 = some (2, some 3) := by kernel_rfl
theorem pl10 : plainFn Try.prog 10 = true := by kernel_rfl
theorem pl100 : plainFn Try.prog 100 = true := by kernel_rfl
theorem pl101 : plainFn Try.prog 101 = true := by kernel_rfl
theorem pl102 : plainFn Try.prog 102 = true := by kernel_rfl
theorem pl103 : plainFn Try.prog 103 = true := by kernel_rfl
theorem pl104 : plainFn Try.prog 104 = true := by kernel_rfl
theorem pl105 : plainFn Try.prog 105 = true := by kernel_rfl
theorem pl106 : plainFn Try.prog 106 = true := by kernel_rfl
theorem pl107 : plainFn Try.prog 107 = true := by kernel_rfl
theorem pl108 : plainFn Try.prog 108 = true := by kernel_rfl
theorem pl109 : plainFn Try.prog 109 = true := by kernel_rfl
theorem pl11 : plainFn Try.prog 11 = true := by kernel_rfl
theorem pl110 : plainFn Try.prog 110 = true := by kernel_rfl
theorem pl111 : plainFn Try.prog 111 = true := by kernel_rfl
theorem pl112 : plainFn Try.prog 112 = true := by kernel_rfl
theorem pl113 : plainFn Try.prog 113 = true := by kernel_rfl
theorem pl114 : plainFn Try.prog 114 = true := by kernel_rfl
theorem pl115 : plainFn Try.prog 115 = true := by kernel_rfl
theorem pl116 : plainFn Try.prog 116 = true := by kernel_rfl
theorem pl117 : plainFn Try.prog 117 = true := by kernel_rfl
theorem pl118 : plainFn Try.prog 118 = true := by kernel_rfl
theorem pl119 : plainFn Try.prog 119 = true := by kernel_rfl
theorem pl12 : plainFn Try.prog 12 = true := by kernel_rfl
theorem pl120 : plainFn Try.prog 120 = true := by kernel_rfl
theorem pl121 : plainFn Try.prog 121 = true := by kernel_rfl
theorem pl122 : plainFn Try.prog 122 = true := by kernel_rfl
theorem pl123 : plainFn Try.prog 123 = true := by kernel_rfl
theorem pl124 : plainFn Try.prog 124 = true := by kernel_rfl
theorem pl125 : plainFn Try.prog 125 = true := by kernel_rfl
theorem pl126 : plainFn Try.prog 126 = true := by kernel_rfl
theorem pl127 : plainFn Try.prog 127 = true := by kernel_rfl
theorem pl128 : plainFn Try.prog 128 = true := by kernel_rfl
theorem pl129 : plainFn Try.prog 129 = true := by kernel_rfl
theorem pl13 : plainFn Try.prog 13 = true := by kernel_rfl
theorem pl130 : plainFn Try.prog 130 = true := by kernel_rfl
theorem pl131 : plainFn Try.prog 131 = true := by kernel_rfl
theorem pl132 : plainFn Try.prog 132 = true := by kernel_rfl
theorem pl133 : plainFn Try.prog 133 = true := by kernel_rfl
theorem pl134 : plainFn Try.prog 134 = true := by kernel_rfl
theorem pl135 : plainFn Try.prog 135 = true := by kernel_rfl
theorem pl136 : plainFn Try.prog 136 = true := by kernel_rfl
theorem pl137 : plainFn Try.prog 137 = true := by kernel_rfl
theorem pl138 : plainFn Try.prog 138 = true := by kernel_rfl
theorem pl139 : plainFn Try.prog 139 = true := by kernel_rfl
theorem pl14 : plainFn Try.prog 14 = true := by kernel_rfl
theorem pl140 : plainFn Try.prog 140 = true := by kernel_rfl
theorem pl141 : plainFn Try.prog 141 = true := by kernel_rfl
theorem pl142 : plainFn Try.prog 142 = true := by kernel_rfl
theorem pl143 : plainFn Try.prog 143 = true := by kernel_rfl
theorem pl144 : plainFn Try.prog 144 = true := by kernel_rfl
theorem pl145 : plainFn Try.prog 145 = true := by kernel_rfl
theorem pl146 : plainFn Try.prog 146 = true := by kernel_rfl
theorem pl147 : plainFn Try.prog 147 = true := by kernel_rfl
theorem pl148 : plainFn Try.prog 148 = true := by kernel_rfl
theorem pl149 : plainFn Try.prog 149 = true := by kernel_rfl
theorem pl15 : plainFn Try.prog 15 = true := by kernel_rfl
theorem pl150 : plainFn Try.prog 150 = true := by kernel_rfl
theorem pl151 : plainFn Try.prog 151 = true := by kernel_rfl
theorem pl152 : plainFn Try.prog 152 = true := by kernel_rfl
theorem pl153 : plainFn Try.prog 153 = true := by kernel_rfl
theorem pl154 : plainFn Try.prog 154 = true := by kernel_rfl
theorem pl155 : plainFn Try.prog 155 = true := by kernel_rfl
theorem pl156 : plainFn Try.prog 156 = true := by kernel_rfl
theorem pl157 : plainFn Try.prog 157 = true := by kernel_rfl
theorem pl158 : plainFn Try.prog 158 = true := by kernel_rfl
theorem pl159 : plainFn Try.prog 159 = true := by kernel_rfl
theorem pl16 : plainFn Try.prog 16 = true := by kernel_rfl
theorem pl160 : plainFn Try.prog 160 = true := by kernel_rfl
theorem pl161 : plainFn Try.prog 161 = true := by kernel_rfl
theorem pl162 : plainFn Try.prog 162 = true := by kernel_rfl
theorem pl163 : plainFn Try.prog 163 = true := by kernel_rfl
theorem pl164 : plainFn Try.prog 164 = true := by kernel_rfl
theorem pl165 : plainFn Try.prog 165 = true := by kernel_rfl
theorem pl166 : plainFn Try.prog 166 = true := by kernel_rfl
theorem pl167 : plainFn Try.prog 167 = true := by kernel_rfl
theorem pl168 : plainFn Try.prog 168 = true := by kernel_rfl
theorem pl169 : plainFn Try.prog 169 = true := by kernel_rfl
theorem pl17 : plainFn Try.prog 17 = true := by kernel_rfl
theorem pl170 : plainFn Try.prog 170 = true := by kernel_rfl
theorem pl171 : plainFn Try.prog 171 = true := by kernel_rfl
theorem pl172 : plainFn Try.prog 172 = true := by kernel_rfl
theorem pl173 : plainFn Try.prog 173 = true := by kernel_rfl
theorem pl174 : plainFn Try.prog 174 = true := by kernel_rfl
theorem pl175 : plainFn Try.prog 175 = true := by kernel_rfl
theorem pl176 : plainFn Try.prog 176 = true := by kernel_rfl
theorem pl177 : plainFn Try.prog 177 = true := by kernel_rfl
theorem pl178 : plainFn Try.prog 178 = true := by kernel_rfl
theorem pl179 : plainFn Try.prog 179 = true := by kernel_rfl
theorem pl18 : plainFn Try.prog 18 = true := by kernel_rfl
theorem pl180 : plainFn Try.prog 180 = true := by kernel_rfl
theorem pl181 : plainFn Try.prog 181 = true := by kernel_rfl
theorem pl182 : plainFn Try.prog 182 = true := by kernel_rfl
theorem pl183 : plainFn Try.prog 183 = true := by kernel_rfl
theorem pl184 : plainFn Try.prog 184 = true := by kernel_rfl
theorem pl185 : plainFn Try.prog 185 = true := by kernel_rfl
theorem pl186 : plainFn Try.prog 186 = true := by kernel_rfl
theorem pl187 : plainFn Try.prog 187 = true := by kernel_rfl
theorem pl188 : plainFn Try.prog 188 = true := by kernel_rfl
theorem pl189 : plainFn Try.prog 189 = true := by kernel_rfl
theorem pl19 : plainFn Try.prog 19 = true := by kernel_rfl
theorem pl190 : plainFn Try.prog 190 = true := by kernel_rfl
theorem pl191 : plainFn Try.prog 191 = true := by kernel_rfl
theorem pl192 : plainFn Try.prog 192 = true := by kernel_rfl
theorem pl193 : plainFn Try.prog 193 = true := by kernel_rfl
theorem pl194 : plainFn Try.prog 194 = true := by kernel_rfl
theorem pl195 : plainFn Try.prog 195 = true := by kernel_rfl
theorem pl196 : plainFn Try.prog 196 = true := by kernel_rfl
theorem pl197 : plainFn Try.prog 197 = true := by kernel_rfl
theorem pl198 : plainFn Try.prog 198 = true := by kernel_rfl
theorem pl199 : plainFn Try.prog 199 = true := by kernel_rfl
theorem pl20 : plainFn Try.prog 20 = true := by kernel_rfl
theorem pl200 : plainFn Try.prog 200 = true := by kernel_rfl
theorem pl201 : plainFn Try.prog 201 = true := by kernel_rfl
theorem pl202 : plainFn Try.prog 202 = true := by kernel_rfl
theorem pl203 : plainFn Try.prog 203 = true := by kernel_rfl
theorem pl21 : plainFn Try.prog 21 = true := by kernel_rfl
theorem pl22 : plainFn Try.prog 22 = true := by kernel_rfl
theorem pl23 : plainFn Try.prog 23 = true := by kernel_rfl
theorem pl24 : plainFn Try.prog 24 = true := by kernel_rfl
theorem pl25 : plainFn Try.prog 25 = true := by kernel_rfl
theorem pl26 : plainFn Try.prog 26 = true := by kernel_rfl
theorem pl27 : plainFn Try.prog 27 = true := by kernel_rfl
theorem pl28 : plainFn Try.prog 28 = true := by kernel_rfl
theorem pl29 : plainFn Try.prog 29 = true := by kernel_rfl
theorem pl30 : plainFn Try.prog 30 = true := by kernel_rfl
theorem pl31 : plainFn Try.prog 31 = true := by kernel_rfl
theorem pl32 : plainFn Try.prog 32 = true := by kernel_rfl
theorem pl33 : plainFn Try.prog 33 = true := by kernel_rfl
theorem pl34 : plainFn Try.prog 34 = true := by kernel_rfl
theorem pl35 : plainFn Try.prog 35 = true := by kernel_rfl
theorem pl36 : plainFn Try.prog 36 = true := by kernel_rfl
theorem pl37 : plainFn Try.prog 37 = true := by kernel_rfl
theorem pl38 : plainFn Try.prog 38 = true := by kernel_rfl
theorem pl39 : plainFn Try.prog 39 = true := by kernel_rfl
theorem pl40 : plainFn Try.prog 40 = true := by kernel_rfl
theorem pl41 : plainFn Try.prog 41 = true := by kernel_rfl
theorem pl42 : plainFn Try.prog 42 = true := by kernel_rfl
theorem pl43 : plainFn Try.prog 43 = true := by kernel_rfl
theorem pl44 : plainFn Try.prog 44 = true := by kernel_rfl
theorem pl45 : plainFn Try.prog 45 = true := by kernel_rfl
theorem pl46 : plainFn Try.prog 46 = true := by kernel_rfl
theorem pl47 : plainFn Try.prog 47 = true := by kernel_rfl
theorem pl48 : plainFn Try.prog 48 = true := by kernel_rfl
theorem pl49 : plainFn Try.prog 49 = true := by kernel_rfl
theorem pl50 : plainFn Try.prog 50 = true := by kernel_rfl
theorem pl51 : plainFn Try.prog 51 = true := by kernel_rfl
theorem pl52 : plainFn Try.prog 52 = true := by kernel_rfl
theorem pl53 : plainFn Try.prog 53 = true := by kernel_rfl
theorem pl54 : plainFn Try.prog 54 = true := by kernel_rfl
theorem pl55 : plainFn Try.prog 55 = true := by kernel_rfl
theorem pl56 : plainFn Try.prog 56 = true := by kernel_rfl
theorem pl57 : plainFn Try.prog 57 = true := by kernel_rfl
theorem pl58 : plainFn Try.prog 58 = true := by kernel_rfl
theorem pl59 : plainFn Try.prog 59 = true := by kernel_rfl
theorem pl60 : plainFn Try.prog 60 = true := by kernel_rfl
theorem pl61 : plainFn Try.prog 61 = true := by kernel_rfl
theorem pl62 : plainFn Try.prog 62 = true := by kernel_rfl
theorem pl63 : plainFn Try.prog 63 = true := by kernel_rfl
theorem pl64 : plainFn Try.prog 64 = true := by kernel_rfl
theorem pl65 : plainFn Try.prog 65 = true := by kernel_rfl
theorem pl66 : plainFn Try.prog 66 = true := by kernel_rfl
theorem pl67 : plainFn Try.prog 67 = true := by kernel_rfl
theorem pl68 : plainFn Try.prog 68 = true := by kernel_rfl
theorem pl69 : plainFn Try.prog 69 = true := by kernel_rfl
theorem pl70 : plainFn Try.prog 70 = true := by kernel_rfl
theorem pl71 : plainFn Try.prog 71 = true := by kernel_rfl
theorem pl72 : plainFn Try.prog 72 = true := by kernel_rfl
theorem pl73 : plainFn Try.prog 73 = true := by kernel_rfl
theorem pl74 : plainFn Try.prog 74 = true := by kernel_rfl
theorem pl75 : plainFn Try.prog 75 = true := by kernel_rfl
theorem pl76 : plainFn Try.prog 76 = true := by kernel_rfl
theorem pl77 : plainFn Try.prog 77 = true := by kernel_rfl
theorem pl78 : plainFn Try.prog 78 = true := by kernel_rfl
theorem pl79 : plainFn Try.prog 79 = true := by kernel_rfl
theorem pl80 : plainFn Try.prog 80 = true := by kernel_rfl
theorem pl81 : plainFn Try.prog 81 = true := by kernel_rfl
theorem pl82 : plainFn Try.prog 82 = true := by kernel_rfl
theorem pl83 : plainFn Try.prog 83 = true := by kernel_rfl
theorem pl84 : plainFn Try.prog 84 = true := by kernel_rfl
theorem pl85 : plainFn Try.prog 85 = true := by kernel_rfl
theorem pl86 : plainFn Try.prog 86 = true := by kernel_rfl
theorem pl87 : plainFn Try.prog 87 = true := by kernel_rfl
theorem pl88 : plainFn Try.prog 88 = true := by kernel_rfl
theorem pl89 : plainFn Try.prog 89 = true := by kernel_rfl
theorem pl90 : plainFn Try.prog 90 = true := by kernel_rfl
theorem pl91 : plainFn Try.prog 91 = true := by kernel_rfl
theorem pl92 : plainFn Try.prog 92 = true := by kernel_rfl
theorem pl93 : plainFn Try.prog 93 = true := by kernel_rfl
theorem pl94 : plainFn Try.prog 94 = true := by kernel_rfl
theorem pl95 : plainFn Try.prog 95 = true := by kernel_rfl
theorem pl96 : plainFn Try.prog 96 = true := by kernel_rfl
theorem pl97 : plainFn Try.prog 97 = true := by kernel_rfl
theorem pl98 : plainFn Try.prog 98 = true := by kernel_rfl
theorem pl99 : plainFn Try.prog 99 = true := by kernel_rfl
theorem sT121 : SlT Try.prog 121 DMsg := SlT.of (b := 16) (by kernel_rfl) rfl
theorem sT162 : SlT Try.prog 162 Bool := SlT.of (b := 1) (by kernel_rfl) rfl
theorem sT24 : SlT Try.prog 24 Int := SlT.of (b := 8) (by kernel_rfl) rfl
theorem sT30 : SlT Try.prog 30 DEntry := SlT.of (b := 72) (by kernel_rfl) rfl
theorem sT32 : SlT Try.prog 32 DBoot := SlT.of (b := 72) (by kernel_rfl) rfl
theorem sT49 : SlT Try.prog 49 DPart := SlT.of (b := 224) (by kernel_rfl) rfl
theorem sT67 : SlT Try.prog 67 DRes := SlT.of (b := 40) (by kernel_rfl) rfl
theorem sT68 : SlT Try.prog 68 DObj := SlT.of (b := 152) (by kernel_rfl) rfl
theorem sT72 : SlT Try.prog 72 DTap := SlT.of (b := 48) (by kernel_rfl) rfl
theorem sTP68 : SlT Try.prog 68 DObjP := SlT.of (b := 152) (by kernel_rfl) rfl
theorem sz105 : szV Try.prog 105 = some 9 := by kernel_rfl
theorem sz109 : szV Try.prog 109 = some 9 := by kernel_rfl
theorem sz123 : szV Try.prog 123 = some 13 := by kernel_rfl
theorem sz156 : szV Try.prog 156 = some 5 := by kernel_rfl
theorem sz158 : szV Try.prog 158 = some 6 := by kernel_rfl
theorem sz166 : szV Try.prog 166 = some 5 := by kernel_rfl
theorem sz170 : szV Try.prog 170 = some 6 := by kernel_rfl
theorem sz191 : szV Try.prog 191 = some 13 := by kernel_rfl
theorem sz199 : szV Try.prog 199 = some 2 := by kernel_rfl
theorem sz206 : szV Try.prog 206 = some 2 := by kernel_rfl
theorem sz3 : szV Try.prog 3 = some 1 := by kernel_rfl
theorem sz4 : szV Try.prog 4 = some 1 := by kernel_rfl
theorem sz64 : szV Try.prog 64 = some 16 := by kernel_rfl
theorem sz75 : szV Try.prog 75 = some 16 := by kernel_rfl
theorem sz89 : szV Try.prog 89 = some 5 := by kernel_rfl
theorem sz94 : szV Try.prog 94 = some 5 := by kernel_rfl
theorem zv103 : zeroV Try.prog 103 = some (.agg #[.int .i64 0, .int .i64 0, .int .i64 0, .int .i64 0, .int .i64 0, .int .i64 0]) := by kernel_rfl
theorem zv105 : zeroV Try.prog 105 = some (.agg #[.int .i64 0, .int .i64 0, .int .i64 0, .int .i64 0, .int .i64 0, .int .i64 0, .int .i64 0, .int .i64 0, .int .i64 0]) := by kernel_rfl
theorem zv123 : zeroV Try.prog 123 = some (.agg #[.int .i64 0, .int .i64 0, .int .i64 0, .int .i64 0, .int .i64 0, .int .i64 0, .int .i64 0, .int .i64 0, .int .i64 0, .bool false, .slice none 0 0, .slice none 0 0, .slice none 0 0]) := by kernel_rfl
theorem zv156 : zeroV Try.prog 156 = some (.agg #[.bool false, .int .i64 0, .int .i64 0, .int .i64 0, .int .i64 0]) := by kernel_rfl
theorem zv158 : zeroV Try.prog 158 = some (.agg #[.int .i64 0, .int .i64 0, .int .i64 0, .int .i64 0, .int .i64 0, .int .i64 0]) := by kernel_rfl
theorem zv199 : zeroV Try.prog 199 = some (.agg #[.int .i64 0, .int .i64 0]) := by kernel_rfl
theorem zv35 : zeroV Try.prog 35 = some (.agg #[.slice none 0 0]) := by kernel_rfl
theorem zv51 : zeroV Try.prog 51 = some (.agg #[.int .i64 0, .slice none 0 0]) := by kernel_rfl
theorem zv69 : zeroV Try.prog 69 = some (.agg #[.int .i64 0, .int .i64 0, .int .i64 0, .slice none 0 0]) := by kernel_rfl
theorem zv71 : zeroV Try.prog 71 = some (.agg #[.slice none 0 0, .int .i64 0, .int .i64 0, .int .i64 0, .slice none 0 0]) := by kernel_rfl
theorem zv73 : zeroV Try.prog 73 = some (.agg #[.int .i64 0, .int .i64 0, .int .i64 0]) := by kernel_rfl
theorem zv75 : zeroV Try.prog 75 = some (.agg #[.slice none 0 0, .slice none 0 0, .slice none 0 0, .slice none 0 0, .int .i64 0, .int .i64 0, .int .i64 0, .slice none 0 0, .slice none 0 0, .int .i64 0, .int .i64 0, .int .i64 0, .int .i64 0, .int .i64 0, .int .i64 0, .int .i64 0]) := by kernel_rfl
theorem zv94 : zeroV Try.prog 94 = some (.agg #[.slice none 0 0, .slice none 0 0, .int .i64 0, .int .i64 0, .int .i64 0]) := by kernel_rfl
end Go.Kx
