/- Closed facts of the program's types and functions. Printed by drive.py. -/
import Derived.Test.YtljikolgijlbeaaProg
import Derived.Test.YtljikolgijlbeaaGo
import Derived.Test.YtljikolgijlbeaaDat
import Derived.Test.YtljikolgijlbeaaDel
namespace Go.Kx
open Go Go.RowKit Go.Proofs
set_option maxRecDepth 10000
set_option maxHeartbeats 8000000
set_option linter.unusedVariables false
set_option linter.unusedSimpArgs false
theorem ag111 : aggV Try.prog 111 = some (some 5) := by kernel_rfl
theorem ag146 : aggV Try.prog 146 = some (some 2) := by kernel_rfl
theorem ag22 : aggV Try.prog 22 = some none := by kernel_rfl
theorem ag24 : aggV Try.prog 24 = some none := by kernel_rfl
theorem ag26 : aggV Try.prog 26 = some (some 1) := by kernel_rfl
theorem ag28 : aggV Try.prog 28 = some (some 3) := by kernel_rfl
theorem ag3 : aggV Try.prog 3 = some none := by kernel_rfl
theorem ag30 : aggV Try.prog 30 = some (some 5) := by kernel_rfl
theorem ag32 : aggV Try.prog 32 = some none := by kernel_rfl
theorem ag33 : aggV Try.prog 33 = some none := by kernel_rfl
theorem ag35 : aggV Try.prog 35 = some (some 4) := by kernel_rfl
theorem ag37 : aggV Try.prog 37 = some (some 5) := by kernel_rfl
theorem ag38 : aggV Try.prog 38 = some none := by kernel_rfl
theorem ag4 : aggV Try.prog 4 = some none := by kernel_rfl
theorem ag40 : aggV Try.prog 40 = some (some 16) := by kernel_rfl
theorem ag5 : aggV Try.prog 5 = some none := by kernel_rfl
theorem ag57 : aggV Try.prog 57 = some none := by kernel_rfl
theorem ag59 : aggV Try.prog 59 = some (some 2) := by kernel_rfl
theorem ag62 : aggV Try.prog 62 = some (some 2) := by kernel_rfl
theorem ag67 : aggV Try.prog 67 = some (some 6) := by kernel_rfl
theorem ag82 : aggV Try.prog 82 = some none := by kernel_rfl
theorem ag84 : aggV Try.prog 84 = some (some 13) := by kernel_rfl
theorem ag95 : aggV Try.prog 95 = some (some 6) := by kernel_rfl
theorem eg111 : Program.eqGuardType Try.prog Try.prog.depth 111 = false := by kernel_rfl
theorem eg146 : Program.eqGuardType Try.prog Try.prog.depth 146 = false := by kernel_rfl
theorem eg28 : Program.eqGuardType Try.prog Try.prog.depth 28 = false := by kernel_rfl
theorem eg62 : Program.eqGuardType Try.prog Try.prog.depth 62 = false := by kernel_rfl
theorem eq111 : ∀ (a b : DRes) (w : World), (Op.equalIn 10000 111 (.agg #[.bool a.live, .int .i64 a.parent, .int .i64 a.bal.pages, .int .i64 a.bal.rent, .int .i64 a.bal.cpu]) (.agg #[.bool b.live, .int .i64 b.parent, .int .i64 b.bal.pages, .int .i64 b.bal.rent, .int .i64 b.bal.cpu])).run Try.prog w = .ok (decide (a = b)) w := fun a b w => EqT.top (n := 2) (EqT.agg (n := 1) Try.underlying111 (by kernel_rfl) (EqF.one rfl ag4 rfl rfl (EqT.bool Try.underlying4) (EqF.one rfl ag3 rfl rfl (EqT.int Try.underlying3) (EqF.more rfl ag28 (EqT.agg (n := 0) Try.underlying28 (by kernel_rfl) (EqF.one rfl ag3 rfl rfl (EqT.int Try.underlying3) (EqF.one rfl ag3 rfl rfl (EqT.int Try.underlying3) (EqF.one rfl ag3 rfl rfl (EqT.int Try.underlying3) EqF.nil)))) EqF.nil)))) (by decide) (by
  obtain ⟨x0, x1, ⟨x2, x3, x4⟩⟩ := a
  obtain ⟨y0, y1, ⟨y2, y3, y4⟩⟩ := b
  simp [DAmt.mk.injEq, DRes.mk.injEq, Bool.beq_eq_decide_eq, Bool.decide_and]) w
theorem eq146 : ∀ (a b : DMsg) (w : World), (Op.equalIn 10000 146 (.agg #[.int .i64 a.src, .int .i64 a.n]) (.agg #[.int .i64 b.src, .int .i64 b.n])).run Try.prog w = .ok (decide (a = b)) w := fun a b w => EqT.top (n := 1) (EqT.agg (n := 0) Try.underlying146 (by kernel_rfl) (EqF.one rfl ag3 rfl rfl (EqT.int Try.underlying3) (EqF.one rfl ag3 rfl rfl (EqT.int Try.underlying3) EqF.nil))) (by decide) (by
  obtain ⟨x0, x1⟩ := a
  obtain ⟨y0, y1⟩ := b
  simp [DMsg.mk.injEq, Bool.beq_eq_decide_eq, Bool.decide_and]) w
theorem eq28 : ∀ (a b : DAmt) (w : World), (Op.equalIn 10000 28 (.agg #[.int .i64 a.pages, .int .i64 a.rent, .int .i64 a.cpu]) (.agg #[.int .i64 b.pages, .int .i64 b.rent, .int .i64 b.cpu])).run Try.prog w = .ok (decide (a = b)) w := fun a b w => EqT.top (n := 1) (EqT.agg (n := 0) Try.underlying28 (by kernel_rfl) (EqF.one rfl ag3 rfl rfl (EqT.int Try.underlying3) (EqF.one rfl ag3 rfl rfl (EqT.int Try.underlying3) (EqF.one rfl ag3 rfl rfl (EqT.int Try.underlying3) EqF.nil)))) (by decide) (by
  obtain ⟨x0, x1, x2⟩ := a
  obtain ⟨y0, y1, y2⟩ := b
  simp [DAmt.mk.injEq, Bool.beq_eq_decide_eq, Bool.decide_and]) w
theorem eq62 : ∀ (a b : DReply) (w : World), (Op.equalIn 10000 62 (.agg #[.int .i64 a.code, .int .i64 a.val]) (.agg #[.int .i64 b.code, .int .i64 b.val])).run Try.prog w = .ok (decide (a = b)) w := fun a b w => EqT.top (n := 1) (EqT.agg (n := 0) Try.underlying62 (by kernel_rfl) (EqF.one rfl ag3 rfl rfl (EqT.int Try.underlying3) (EqF.one rfl ag3 rfl rfl (EqT.int Try.underlying3) EqF.nil))) (by decide) (by
  obtain ⟨x0, x1⟩ := a
  obtain ⟨y0, y1⟩ := b
  simp [DReply.mk.injEq, Bool.beq_eq_decide_eq, Bool.decide_and]) w
theorem fo106_0 : fo Try.prog 106 0 = some (0, none) := by kernel_rfl
theorem fo106_1 : fo Try.prog 106 1 = some (1, none) := by kernel_rfl
theorem fo106_2 : fo Try.prog 106 2 = some (2, none) := by kernel_rfl
theorem fo111_0 : fo Try.prog 111 0 = some (0, none) := by kernel_rfl
theorem fo111_1 : fo Try.prog 111 1 = some (1, none) := by kernel_rfl
theorem fo111_2 : fo Try.prog 111 2 = some (2, some 3) := by kernel_rfl
theorem fo140_0 : fo Try.prog 140 0 = some (0, some 16) := by kernel_rfl
theorem fo140_1 : fo Try.prog 140 1 = some (16, none) := by kernel_rfl
theorem fo140_2 : fo Try.prog 140 2 = some (17, none) := by kernel_rfl
theorem fo140_3 : fo Try.prog 140 3 = some (18, none) := by kernel_rfl
theorem fo146_0 : fo Try.prog 146 0 = some (0, none) := by kernel_rfl
theorem fo146_1 : fo Try.prog 146 1 = some (1, none) := by kernel_rfl
theorem fo26_0 : fo Try.prog 26 0 = some (0, none) := by kernel_rfl
theorem fo28_0 : fo Try.prog 28 0 = some (0, none) := by kernel_rfl
theorem fo28_1 : fo Try.prog 28 1 = some (1, none) := by kernel_rfl
theorem fo28_2 : fo Try.prog 28 2 = some (2, none) := by kernel_rfl
theorem fo30_0 : fo Try.prog 30 0 = some (0, some 1) := by kernel_rfl
theorem fo30_1 : fo Try.prog 30 1 = some (1, none) := by kernel_rfl
theorem fo30_2 : fo Try.prog 30 2 = some (2, some 3) := by kernel_rfl
theorem fo35_0 : fo Try.prog 35 0 = some (0, none) := by kernel_rfl
theorem fo35_1 : fo Try.prog 35 1 = some (1, none) := by kernel_rfl
theorem fo35_2 : fo Try.prog 35 2 = some (2, none) := by kernel_rfl
theorem fo35_3 : fo Try.prog 35 3 = some (3, none) := by kernel_rfl
theorem fo37_0 : fo Try.prog 37 0 = some (0, none) := by kernel_rfl
theorem fo37_1 : fo Try.prog 37 1 = some (1, some 4) := by kernel_rfl
theorem fo40_0 : fo Try.prog 40 0 = some (0, some 1) := by kernel_rfl
theorem fo40_1 : fo Try.prog 40 1 = some (1, none) := by kernel_rfl
theorem fo40_2 : fo Try.prog 40 2 = some (2, none) := by kernel_rfl
theorem fo40_3 : fo Try.prog 40 3 = some (3, some 5) := by kernel_rfl
theorem fo40_4 : fo Try.prog 40 4 = some (8, none) := by kernel_rfl
theorem fo40_5 : fo Try.prog 40 5 = some (9, none) := by kernel_rfl
theorem fo40_6 : fo Try.prog 40 6 = some (10, none) := by kernel_rfl
theorem fo40_7 : fo Try.prog 40 7 = some (11, some 3) := by kernel_rfl
theorem fo40_8 : fo Try.prog 40 8 = some (14, none) := by kernel_rfl
theorem fo40_9 : fo Try.prog 40 9 = some (15, none) := by kernel_rfl
theorem fo59_0 : fo Try.prog 59 0 = some (0, none) := by kernel_rfl
theorem fo59_1 : fo Try.prog 59 1 = some (1, none) := by kernel_rfl
theorem fo62_0 : fo Try.prog 62 0 = some (0, none) := by kernel_rfl
theorem fo62_1 : fo Try.prog 62 1 = some (1, none) := by kernel_rfl
theorem fo67_0 : fo Try.prog 67 0 = some (0, none) := by kernel_rfl
theorem fo67_1 : fo Try.prog 67 1 = some (1, none) := by kernel_rfl
theorem fo67_2 : fo Try.prog 67 2 = some (2, none) := by kernel_rfl
theorem fo67_3 : fo Try.prog 67 3 = some (3, none) := by kernel_rfl
theorem fo67_4 : fo Try.prog 67 4 = some (4, none) := by kernel_rfl
theorem fo67_5 : fo Try.prog 67 5 = some (5, none) := by kernel_rfl
theorem fo84_0 : fo Try.prog 84 0 = some (0, none) := by kernel_rfl
theorem fo84_1 : fo Try.prog 84 1 = some (1, none) := by kernel_rfl
theorem fo84_10 : fo Try.prog 84 10 = some (10, none) := by kernel_rfl
theorem fo84_11 : fo Try.prog 84 11 = some (11, none) := by kernel_rfl
theorem fo84_12 : fo Try.prog 84 12 = some (12, none) := by kernel_rfl
theorem fo84_2 : fo Try.prog 84 2 = some (2, none) := by kernel_rfl
theorem fo84_3 : fo Try.prog 84 3 = some (3, none) := by kernel_rfl
theorem fo84_4 : fo Try.prog 84 4 = some (4, none) := by kernel_rfl
theorem fo84_5 : fo Try.prog 84 5 = some (5, none) := by kernel_rfl
theorem fo84_6 : fo Try.prog 84 6 = some (6, none) := by kernel_rfl
theorem fo84_7 : fo Try.prog 84 7 = some (7, none) := by kernel_rfl
theorem fo84_8 : fo Try.prog 84 8 = some (8, none) := by kernel_rfl
theorem fo84_9 : fo Try.prog 84 9 = some (9, none) := by kernel_rfl
theorem fo95_0 : fo Try.prog 95 0 = some (0, none) := by kernel_rfl
theorem fo95_1 : fo Try.prog 95 1 = some (1, none) := by kernel_rfl
theorem fo95_2 : fo Try.prog 95 2 = some (2, none) := by kernel_rfl
theorem fo95_3 : fo Try.prog 95 3 = some (3, none) := by kernel_rfl
theorem fo95_4 : fo Try.prog 95 4 = some (4, none) := by kernel_rfl
theorem fo95_5 : fo Try.prog 95 5 = some (5, none) := by kernel_rfl
theorem pl10 : plainFn Try.prog 10 = true := by kernel_rfl
theorem pl100 : plainFn Try.prog 100 = true := by kernel_rfl
theorem pl101 : plainFn Try.prog 101 = true := by kernel_rfl
theorem pl102 : plainFn Try.prog 102 = true := by kernel_rfl
theorem pl103 : plainFn Try.prog 103 = true := by kernel_rfl
theorem pl104 : plainFn Try.prog 104 = true := by kernel_rfl
theorem pl105 : plainFn Try.prog 105 = true := by kernel_rfl
theorem pl106 : plainFn Try.prog 106 = true := by kernel_rfl
theorem pl107 : plainFn Try.prog 107 = true := by kernel_rfl
theorem pl108 : plainFn Try.prog 108 = true := by kernel_rfl
theorem pl109 : plainFn Try.prog 109 = true := by kernel_rfl
theorem pl11 : plainFn Try.prog 11 = true := by kernel_rfl
theorem pl110 : plainFn Try.prog 110 = true := by kernel_rfl
theorem pl111 : plainFn Try.prog 111 = true := by kernel_rfl
theorem pl112 : plainFn Try.prog 112 = true := by kernel_rfl
theorem pl113 : plainFn Try.prog 113 = true := by kernel_rfl
theorem pl114 : plainFn Try.prog 114 = true := by kernel_rfl
theorem pl115 : plainFn Try.prog 115 = true := by kernel_rfl
theorem pl116 : plainFn Try.prog 116 = true := by kernel_rfl
theorem pl117 : plainFn Try.prog 117 = true := by kernel_rfl
theorem pl118 : plainFn Try.prog 118 = true := by kernel_rfl
theorem pl119 : plainFn Try.prog 119 = true := by kernel_rfl
theorem pl12 : plainFn Try.prog 12 = true := by kernel_rfl
theorem pl120 : plainFn Try.prog 120 = true := by kernel_rfl
theorem pl121 : plainFn Try.prog 121 = true := by kernel_rfl
theorem pl122 : plainFn Try.prog 122 = true := by kernel_rfl
theorem pl123 : plainFn Try.prog 123 = true := by kernel_rfl
theorem pl124 : plainFn Try.prog 124 = true := by kernel_rfl
theorem pl125 : plainFn Try.prog 125 = true := by kernel_rfl
theorem pl126 : plainFn Try.prog 126 = true := by kernel_rfl
theorem pl127 : plainFn Try.prog 127 = true := by kernel_rfl
theorem pl128 : plainFn Try.prog 128 = true := by kernel_rfl
theorem pl129 : plainFn Try.prog 129 = true := by kernel_rfl
theorem pl13 : plainFn Try.prog 13 = true := by kernel_rfl
theorem pl130 : plainFn Try.prog 130 = true := by kernel_rfl
theorem pl131 : plainFn Try.prog 131 = true := by kernel_rfl
theorem pl132 : plainFn Try.prog 132 = true := by kernel_rfl
theorem pl133 : plainFn Try.prog 133 = true := by kernel_rfl
theorem pl134 : plainFn Try.prog 134 = true := by kernel_rfl
theorem pl135 : plainFn Try.prog 135 = true := by kernel_rfl
theorem pl136 : plainFn Try.prog 136 = true := by kernel_rfl
theorem pl137 : plainFn Try.prog 137 = true := by kernel_rfl
theorem pl14 : plainFn Try.prog 14 = true := by kernel_rfl
theorem pl15 : plainFn Try.prog 15 = true := by kernel_rfl
theorem pl16 : plainFn Try.prog 16 = true := by kernel_rfl
theorem pl17 : plainFn Try.prog 17 = true := by kernel_rfl
theorem pl18 : plainFn Try.prog 18 = true := by kernel_rfl
theorem pl19 : plainFn Try.prog 19 = true := by kernel_rfl
theorem pl20 : plainFn Try.prog 20 = true := by kernel_rfl
theorem pl21 : plainFn Try.prog 21 = true := by kernel_rfl
theorem pl22 : plainFn Try.prog 22 = true := by kernel_rfl
theorem pl23 : plainFn Try.prog 23 = true := by kernel_rfl
theorem pl24 : plainFn Try.prog 24 = true := by kernel_rfl
theorem pl25 : plainFn Try.prog 25 = true := by kernel_rfl
theorem pl26 : plainFn Try.prog 26 = true := by kernel_rfl
theorem pl27 : plainFn Try.prog 27 = true := by kernel_rfl
theorem pl28 : plainFn Try.prog 28 = true := by kernel_rfl
theorem pl29 : plainFn Try.prog 29 = true := by kernel_rfl
theorem pl30 : plainFn Try.prog 30 = true := by kernel_rfl
theorem pl31 : plainFn Try.prog 31 = true := by kernel_rfl
theorem pl32 : plainFn Try.prog 32 = true := by kernel_rfl
theorem pl33 : plainFn Try.prog 33 = true := by kernel_rfl
theorem pl34 : plainFn Try.prog 34 = true := by kernel_rfl
theorem pl35 : plainFn Try.prog 35 = true := by kernel_rfl
theorem pl36 : plainFn Try.prog 36 = true := by kernel_rfl
theorem pl37 : plainFn Try.prog 37 = true := by kernel_rfl
theorem pl38 : plainFn Try.prog 38 = true := by kernel_rfl
theorem pl39 : plainFn Try.prog 39 = true := by kernel_rfl
theorem pl40 : plainFn Try.prog 40 = true := by kernel_rfl
theorem pl41 : plainFn Try.prog 41 = true := by kernel_rfl
theorem pl42 : plainFn Try.prog 42 = true := by kernel_rfl
theorem pl43 : plainFn Try.prog 43 = true := by kernel_rfl
theorem pl44 : plainFn Try.prog 44 = true := by kernel_rfl
theorem pl45 : plainFn Try.prog 45 = true := by kernel_rfl
theorem pl46 : plainFn Try.prog 46 = true := by kernel_rfl
theorem pl47 : plainFn Try.prog 47 = true := by kernel_rfl
theorem pl48 : plainFn Try.prog 48 = true := by kernel_rfl
theorem pl49 : plainFn Try.prog 49 = true := by kernel_rfl
theorem pl5 : plainFn Try.prog 5 = true := by kernel_rfl
theorem pl50 : plainFn Try.prog 50 = true := by kernel_rfl
theorem pl51 : plainFn Try.prog 51 = true := by kernel_rfl
theorem pl52 : plainFn Try.prog 52 = true := by kernel_rfl
theorem pl53 : plainFn Try.prog 53 = true := by kernel_rfl
theorem pl54 : plainFn Try.prog 54 = true := by kernel_rfl
theorem pl55 : plainFn Try.prog 55 = true := by kernel_rfl
theorem pl56 : plainFn Try.prog 56 = true := by kernel_rfl
theorem pl57 : plainFn Try.prog 57 = true := by kernel_rfl
theorem pl58 : plainFn Try.prog 58 = true := by kernel_rfl
theorem pl59 : plainFn Try.prog 59 = true := by kernel_rfl
theorem pl6 : plainFn Try.prog 6 = true := by kernel_rfl
theorem pl60 : plainFn Try.prog 60 = true := by kernel_rfl
theorem pl61 : plainFn Try.prog 61 = true := by kernel_rfl
theorem pl62 : plainFn Try.prog 62 = true := by kernel_rfl
theorem pl63 : plainFn Try.prog 63 = true := by kernel_rfl
theorem pl64 : plainFn Try.prog 64 = true := by kernel_rfl
theorem pl65 : plainFn Try.prog 65 = true := by kernel_rfl
theorem pl66 : plainFn Try.prog 66 = true := by kernel_rfl
theorem pl67 : plainFn Try.prog 67 = true := by kernel_rfl
theorem pl68 : plainFn Try.prog 68 = true := by kernel_rfl
theorem pl69 : plainFn Try.prog 69 = true := by kernel_rfl
theorem pl7 : plainFn Try.prog 7 = true := by kernel_rfl
theorem pl70 : plainFn Try.prog 70 = true := by kernel_rfl
theorem pl71 : plainFn Try.prog 71 = true := by kernel_rfl
theorem pl72 : plainFn Try.prog 72 = true := by kernel_rfl
theorem pl73 : plainFn Try.prog 73 = true := by kernel_rfl
theorem pl74 : plainFn Try.prog 74 = true := by kernel_rfl
theorem pl75 : plainFn Try.prog 75 = true := by kernel_rfl
theorem pl76 : plainFn Try.prog 76 = true := by kernel_rfl
theorem pl77 : plainFn Try.prog 77 = true := by kernel_rfl
theorem pl78 : plainFn Try.prog 78 = true := by kernel_rfl
theorem pl79 : plainFn Try.prog 79 = true := by kernel_rfl
theorem pl8 : plainFn Try.prog 8 = true := by kernel_rfl
theorem pl80 : plainFn Try.prog 80 = true := by kernel_rfl
theorem pl81 : plainFn Try.prog 81 = true := by kernel_rfl
theorem pl82 : plainFn Try.prog 82 = true := by kernel_rfl
theorem pl83 : plainFn Try.prog 83 = true := by kernel_rfl
theorem pl84 : plainFn Try.prog 84 = true := by kernel_rfl
theorem pl85 : plainFn Try.prog 85 = true := by kernel_rfl
theorem pl86 : plainFn Try.prog 86 = true := by kernel_rfl
theorem pl87 : plainFn Try.prog 87 = true := by kernel_rfl
theorem pl88 : plainFn Try.prog 88 = true := by kernel_rfl
theorem pl89 : plainFn Try.prog 89 = true := by kernel_rfl
theorem pl9 : plainFn Try.prog 9 = true := by kernel_rfl
theorem pl90 : plainFn Try.prog 90 = true := by kernel_rfl
theorem pl91 : plainFn Try.prog 91 = true := by kernel_rfl
theorem pl92 : plainFn Try.prog 92 = true := by kernel_rfl
theorem pl93 : plainFn Try.prog 93 = true := by kernel_rfl
theorem pl94 : plainFn Try.prog 94 = true := by kernel_rfl
theorem pl95 : plainFn Try.prog 95 = true := by kernel_rfl
theorem pl96 : plainFn Try.prog 96 = true := by kernel_rfl
theorem pl97 : plainFn Try.prog 97 = true := by kernel_rfl
theorem pl98 : plainFn Try.prog 98 = true := by kernel_rfl
theorem pl99 : plainFn Try.prog 99 = true := by kernel_rfl
theorem sT24 : SlT Try.prog 24 Int := SlT.of (b := 8) (by kernel_rfl) rfl
theorem sT32 : SlT Try.prog 32 DRes := SlT.of (b := 40) (by kernel_rfl) rfl
theorem sT33 : SlT Try.prog 33 DObj := SlT.of (b := 152) (by kernel_rfl) rfl
theorem sT38 : SlT Try.prog 38 DTap := SlT.of (b := 48) (by kernel_rfl) rfl
theorem sT54 : SlT Try.prog 54 DBoot := SlT.of (b := 72) (by kernel_rfl) rfl
theorem sT57 : SlT Try.prog 57 DPart := SlT.of (b := 224) (by kernel_rfl) rfl
theorem sT82 : SlT Try.prog 82 DMsg := SlT.of (b := 16) (by kernel_rfl) rfl
theorem sT96 : SlT Try.prog 96 Bool := SlT.of (b := 1) (by kernel_rfl) rfl
theorem sTP33 : SlT Try.prog 33 DObjP := SlT.of (b := 152) (by kernel_rfl) rfl
theorem sz111 : szV Try.prog 111 = some 5 := by kernel_rfl
theorem sz146 : szV Try.prog 146 = some 2 := by kernel_rfl
theorem sz3 : szV Try.prog 3 = some 1 := by kernel_rfl
theorem sz30 : szV Try.prog 30 = some 5 := by kernel_rfl
theorem sz4 : szV Try.prog 4 = some 1 := by kernel_rfl
theorem sz40 : szV Try.prog 40 = some 16 := by kernel_rfl
theorem sz5 : szV Try.prog 5 = some 1 := by kernel_rfl
theorem sz67 : szV Try.prog 67 = some 6 := by kernel_rfl
theorem sz84 : szV Try.prog 84 = some 13 := by kernel_rfl
theorem sz95 : szV Try.prog 95 = some 6 := by kernel_rfl
theorem zv111 : zeroV Try.prog 111 = some (.agg #[.bool false, .int .i64 0, .int .i64 0, .int .i64 0, .int .i64 0]) := by kernel_rfl
theorem zv146 : zeroV Try.prog 146 = some (.agg #[.int .i64 0, .int .i64 0]) := by kernel_rfl
theorem zv26 : zeroV Try.prog 26 = some (.agg #[.slice none 0 0]) := by kernel_rfl
theorem zv28 : zeroV Try.prog 28 = some (.agg #[.int .i64 0, .int .i64 0, .int .i64 0]) := by kernel_rfl
theorem zv30 : zeroV Try.prog 30 = some (.agg #[.slice none 0 0, .slice none 0 0, .int .i64 0, .int .i64 0, .int .i64 0]) := by kernel_rfl
theorem zv35 : zeroV Try.prog 35 = some (.agg #[.int .i64 0, .int .i64 0, .int .i64 0, .slice none 0 0]) := by kernel_rfl
theorem zv37 : zeroV Try.prog 37 = some (.agg #[.slice none 0 0, .int .i64 0, .int .i64 0, .int .i64 0, .slice none 0 0]) := by kernel_rfl
theorem zv40 : zeroV Try.prog 40 = some (.agg #[.slice none 0 0, .slice none 0 0, .slice none 0 0, .slice none 0 0, .int .i64 0, .int .i64 0, .int .i64 0, .slice none 0 0, .slice none 0 0, .int .i64 0, .int .i64 0, .int .i64 0, .int .i64 0, .int .i64 0, .int .i64 0, .int .i64 0]) := by kernel_rfl
theorem zv59 : zeroV Try.prog 59 = some (.agg #[.int .i64 0, .slice none 0 0]) := by kernel_rfl
theorem zv62 : zeroV Try.prog 62 = some (.agg #[.int .i64 0, .int .i64 0]) := by kernel_rfl
theorem zv84 : zeroV Try.prog 84 = some (.agg #[.int .i64 0, .int .i64 0, .int .i64 0, .int .i64 0, .int .i64 0, .int .i64 0, .int .i64 0, .int .i64 0, .int .i64 0, .bool false, .slice none 0 0, .slice none 0 0, .slice none 0 0]) := by kernel_rfl
theorem zv95 : zeroV Try.prog 95 = some (.agg #[.int .i64 0, .int .i64 0, .int .i64 0, .int .i64 0, .int .i64 0, .int .i64 0]) := by kernel_rfl
instance : AgC Try.prog 111 (some 5) := ⟨ag111⟩
instance : AgC Try.prog 146 (some 2) := ⟨ag146⟩
instance : AgC Try.prog 22 none := ⟨ag22⟩
instance : AgC Try.prog 24 none := ⟨ag24⟩
instance : AgC Try.prog 26 (some 1) := ⟨ag26⟩
instance : AgC Try.prog 28 (some 3) := ⟨ag28⟩
instance : AgC Try.prog 3 none := ⟨ag3⟩
instance : AgC Try.prog 30 (some 5) := ⟨ag30⟩
instance : AgC Try.prog 32 none := ⟨ag32⟩
instance : AgC Try.prog 33 none := ⟨ag33⟩
instance : AgC Try.prog 35 (some 4) := ⟨ag35⟩
instance : AgC Try.prog 37 (some 5) := ⟨ag37⟩
instance : AgC Try.prog 38 none := ⟨ag38⟩
instance : AgC Try.prog 4 none := ⟨ag4⟩
instance : AgC Try.prog 40 (some 16) := ⟨ag40⟩
instance : AgC Try.prog 5 none := ⟨ag5⟩
instance : AgC Try.prog 57 none := ⟨ag57⟩
instance : AgC Try.prog 59 (some 2) := ⟨ag59⟩
instance : AgC Try.prog 62 (some 2) := ⟨ag62⟩
instance : AgC Try.prog 67 (some 6) := ⟨ag67⟩
instance : AgC Try.prog 82 none := ⟨ag82⟩
instance : AgC Try.prog 84 (some 13) := ⟨ag84⟩
instance : AgC Try.prog 95 (some 6) := ⟨ag95⟩
instance : FoC Try.prog 106 0 0 none := ⟨fo106_0⟩
instance : FoC Try.prog 106 1 1 none := ⟨fo106_1⟩
instance : FoC Try.prog 106 2 2 none := ⟨fo106_2⟩
instance : FoC Try.prog 111 0 0 none := ⟨fo111_0⟩
instance : FoC Try.prog 111 1 1 none := ⟨fo111_1⟩
instance : FoC Try.prog 111 2 2 (some 3) := ⟨fo111_2⟩
instance : FoC Try.prog 140 0 0 (some 16) := ⟨fo140_0⟩
instance : FoC Try.prog 140 1 16 none := ⟨fo140_1⟩
instance : FoC Try.prog 140 2 17 none := ⟨fo140_2⟩
instance : FoC Try.prog 140 3 18 none := ⟨fo140_3⟩
instance : FoC Try.prog 146 0 0 none := ⟨fo146_0⟩
instance : FoC Try.prog 146 1 1 none := ⟨fo146_1⟩
instance : FoC Try.prog 26 0 0 none := ⟨fo26_0⟩
instance : FoC Try.prog 28 0 0 none := ⟨fo28_0⟩
instance : FoC Try.prog 28 1 1 none := ⟨fo28_1⟩
instance : FoC Try.prog 28 2 2 none := ⟨fo28_2⟩
instance : FoC Try.prog 30 0 0 (some 1) := ⟨fo30_0⟩
instance : FoC Try.prog 30 1 1 none := ⟨fo30_1⟩
instance : FoC Try.prog 30 2 2 (some 3) := ⟨fo30_2⟩
instance : FoC Try.prog 35 0 0 none := ⟨fo35_0⟩
instance : FoC Try.prog 35 1 1 none := ⟨fo35_1⟩
instance : FoC Try.prog 35 2 2 none := ⟨fo35_2⟩
instance : FoC Try.prog 35 3 3 none := ⟨fo35_3⟩
instance : FoC Try.prog 37 0 0 none := ⟨fo37_0⟩
instance : FoC Try.prog 37 1 1 (some 4) := ⟨fo37_1⟩
instance : FoC Try.prog 40 0 0 (some 1) := ⟨fo40_0⟩
instance : FoC Try.prog 40 1 1 none := ⟨fo40_1⟩
instance : FoC Try.prog 40 2 2 none := ⟨fo40_2⟩
instance : FoC Try.prog 40 3 3 (some 5) := ⟨fo40_3⟩
instance : FoC Try.prog 40 4 8 none := ⟨fo40_4⟩
instance : FoC Try.prog 40 5 9 none := ⟨fo40_5⟩
instance : FoC Try.prog 40 6 10 none := ⟨fo40_6⟩
instance : FoC Try.prog 40 7 11 (some 3) := ⟨fo40_7⟩
instance : FoC Try.prog 40 8 14 none := ⟨fo40_8⟩
instance : FoC Try.prog 40 9 15 none := ⟨fo40_9⟩
instance : FoC Try.prog 59 0 0 none := ⟨fo59_0⟩
instance : FoC Try.prog 59 1 1 none := ⟨fo59_1⟩
instance : FoC Try.prog 62 0 0 none := ⟨fo62_0⟩
instance : FoC Try.prog 62 1 1 none := ⟨fo62_1⟩
instance : FoC Try.prog 67 0 0 none := ⟨fo67_0⟩
instance : FoC Try.prog 67 1 1 none := ⟨fo67_1⟩
instance : FoC Try.prog 67 2 2 none := ⟨fo67_2⟩
instance : FoC Try.prog 67 3 3 none := ⟨fo67_3⟩
instance : FoC Try.prog 67 4 4 none := ⟨fo67_4⟩
instance : FoC Try.prog 67 5 5 none := ⟨fo67_5⟩
instance : FoC Try.prog 84 0 0 none := ⟨fo84_0⟩
instance : FoC Try.prog 84 1 1 none := ⟨fo84_1⟩
instance : FoC Try.prog 84 10 10 none := ⟨fo84_10⟩
instance : FoC Try.prog 84 11 11 none := ⟨fo84_11⟩
instance : FoC Try.prog 84 12 12 none := ⟨fo84_12⟩
instance : FoC Try.prog 84 2 2 none := ⟨fo84_2⟩
instance : FoC Try.prog 84 3 3 none := ⟨fo84_3⟩
instance : FoC Try.prog 84 4 4 none := ⟨fo84_4⟩
instance : FoC Try.prog 84 5 5 none := ⟨fo84_5⟩
instance : FoC Try.prog 84 6 6 none := ⟨fo84_6⟩
instance : FoC Try.prog 84 7 7 none := ⟨fo84_7⟩
instance : FoC Try.prog 84 8 8 none := ⟨fo84_8⟩
instance : FoC Try.prog 84 9 9 none := ⟨fo84_9⟩
instance : FoC Try.prog 95 0 0 none := ⟨fo95_0⟩
instance : FoC Try.prog 95 1 1 none := ⟨fo95_1⟩
instance : FoC Try.prog 95 2 2 none := ⟨fo95_2⟩
instance : FoC Try.prog 95 3 3 none := ⟨fo95_3⟩
instance : FoC Try.prog 95 4 4 none := ⟨fo95_4⟩
instance : FoC Try.prog 95 5 5 none := ⟨fo95_5⟩
instance : PlC Try.prog 10 := ⟨pl10⟩
instance : PlC Try.prog 100 := ⟨pl100⟩
instance : PlC Try.prog 101 := ⟨pl101⟩
instance : PlC Try.prog 102 := ⟨pl102⟩
instance : PlC Try.prog 103 := ⟨pl103⟩
instance : PlC Try.prog 104 := ⟨pl104⟩
instance : PlC Try.prog 105 := ⟨pl105⟩
instance : PlC Try.prog 106 := ⟨pl106⟩
instance : PlC Try.prog 107 := ⟨pl107⟩
instance : PlC Try.prog 108 := ⟨pl108⟩
instance : PlC Try.prog 109 := ⟨pl109⟩
instance : PlC Try.prog 11 := ⟨pl11⟩
instance : PlC Try.prog 110 := ⟨pl110⟩
instance : PlC Try.prog 111 := ⟨pl111⟩
instance : PlC Try.prog 112 := ⟨pl112⟩
instance : PlC Try.prog 113 := ⟨pl113⟩
instance : PlC Try.prog 114 := ⟨pl114⟩
instance : PlC Try.prog 115 := ⟨pl115⟩
instance : PlC Try.prog 116 := ⟨pl116⟩
instance : PlC Try.prog 117 := ⟨pl117⟩
instance : PlC Try.prog 118 := ⟨pl118⟩
instance : PlC Try.prog 119 := ⟨pl119⟩
instance : PlC Try.prog 12 := ⟨pl12⟩
instance : PlC Try.prog 120 := ⟨pl120⟩
instance : PlC Try.prog 121 := ⟨pl121⟩
instance : PlC Try.prog 122 := ⟨pl122⟩
instance : PlC Try.prog 123 := ⟨pl123⟩
instance : PlC Try.prog 124 := ⟨pl124⟩
instance : PlC Try.prog 125 := ⟨pl125⟩
instance : PlC Try.prog 126 := ⟨pl126⟩
instance : PlC Try.prog 127 := ⟨pl127⟩
instance : PlC Try.prog 128 := ⟨pl128⟩
instance : PlC Try.prog 129 := ⟨pl129⟩
instance : PlC Try.prog 13 := ⟨pl13⟩
instance : PlC Try.prog 130 := ⟨pl130⟩
instance : PlC Try.prog 131 := ⟨pl131⟩
instance : PlC Try.prog 132 := ⟨pl132⟩
instance : PlC Try.prog 133 := ⟨pl133⟩
instance : PlC Try.prog 134 := ⟨pl134⟩
instance : PlC Try.prog 135 := ⟨pl135⟩
instance : PlC Try.prog 136 := ⟨pl136⟩
instance : PlC Try.prog 137 := ⟨pl137⟩
instance : PlC Try.prog 14 := ⟨pl14⟩
instance : PlC Try.prog 15 := ⟨pl15⟩
instance : PlC Try.prog 16 := ⟨pl16⟩
instance : PlC Try.prog 17 := ⟨pl17⟩
instance : PlC Try.prog 18 := ⟨pl18⟩
instance : PlC Try.prog 19 := ⟨pl19⟩
instance : PlC Try.prog 20 := ⟨pl20⟩
instance : PlC Try.prog 21 := ⟨pl21⟩
instance : PlC Try.prog 22 := ⟨pl22⟩
instance : PlC Try.prog 23 := ⟨pl23⟩
instance : PlC Try.prog 24 := ⟨pl24⟩
instance : PlC Try.prog 25 := ⟨pl25⟩
instance : PlC Try.prog 26 := ⟨pl26⟩
instance : PlC Try.prog 27 := ⟨pl27⟩
instance : PlC Try.prog 28 := ⟨pl28⟩
instance : PlC Try.prog 29 := ⟨pl29⟩
instance : PlC Try.prog 30 := ⟨pl30⟩
instance : PlC Try.prog 31 := ⟨pl31⟩
instance : PlC Try.prog 32 := ⟨pl32⟩
instance : PlC Try.prog 33 := ⟨pl33⟩
instance : PlC Try.prog 34 := ⟨pl34⟩
instance : PlC Try.prog 35 := ⟨pl35⟩
instance : PlC Try.prog 36 := ⟨pl36⟩
instance : PlC Try.prog 37 := ⟨pl37⟩
instance : PlC Try.prog 38 := ⟨pl38⟩
instance : PlC Try.prog 39 := ⟨pl39⟩
instance : PlC Try.prog 40 := ⟨pl40⟩
instance : PlC Try.prog 41 := ⟨pl41⟩
instance : PlC Try.prog 42 := ⟨pl42⟩
instance : PlC Try.prog 43 := ⟨pl43⟩
instance : PlC Try.prog 44 := ⟨pl44⟩
instance : PlC Try.prog 45 := ⟨pl45⟩
instance : PlC Try.prog 46 := ⟨pl46⟩
instance : PlC Try.prog 47 := ⟨pl47⟩
instance : PlC Try.prog 48 := ⟨pl48⟩
instance : PlC Try.prog 49 := ⟨pl49⟩
instance : PlC Try.prog 5 := ⟨pl5⟩
instance : PlC Try.prog 50 := ⟨pl50⟩
instance : PlC Try.prog 51 := ⟨pl51⟩
instance : PlC Try.prog 52 := ⟨pl52⟩
instance : PlC Try.prog 53 := ⟨pl53⟩
instance : PlC Try.prog 54 := ⟨pl54⟩
instance : PlC Try.prog 55 := ⟨pl55⟩
instance : PlC Try.prog 56 := ⟨pl56⟩
instance : PlC Try.prog 57 := ⟨pl57⟩
instance : PlC Try.prog 58 := ⟨pl58⟩
instance : PlC Try.prog 59 := ⟨pl59⟩
instance : PlC Try.prog 6 := ⟨pl6⟩
instance : PlC Try.prog 60 := ⟨pl60⟩
instance : PlC Try.prog 61 := ⟨pl61⟩
instance : PlC Try.prog 62 := ⟨pl62⟩
instance : PlC Try.prog 63 := ⟨pl63⟩
instance : PlC Try.prog 64 := ⟨pl64⟩
instance : PlC Try.prog 65 := ⟨pl65⟩
instance : PlC Try.prog 66 := ⟨pl66⟩
instance : PlC Try.prog 67 := ⟨pl67⟩
instance : PlC Try.prog 68 := ⟨pl68⟩
instance : PlC Try.prog 69 := ⟨pl69⟩
instance : PlC Try.prog 7 := ⟨pl7⟩
instance : PlC Try.prog 70 := ⟨pl70⟩
instance : PlC Try.prog 71 := ⟨pl71⟩
instance : PlC Try.prog 72 := ⟨pl72⟩
instance : PlC Try.prog 73 := ⟨pl73⟩
instance : PlC Try.prog 74 := ⟨pl74⟩
instance : PlC Try.prog 75 := ⟨pl75⟩
instance : PlC Try.prog 76 := ⟨pl76⟩
instance : PlC Try.prog 77 := ⟨pl77⟩
instance : PlC Try.prog 78 := ⟨pl78⟩
instance : PlC Try.prog 79 := ⟨pl79⟩
instance : PlC Try.prog 8 := ⟨pl8⟩
instance : PlC Try.prog 80 := ⟨pl80⟩
instance : PlC Try.prog 81 := ⟨pl81⟩
instance : PlC Try.prog 82 := ⟨pl82⟩
instance : PlC Try.prog 83 := ⟨pl83⟩
instance : PlC Try.prog 84 := ⟨pl84⟩
instance : PlC Try.prog 85 := ⟨pl85⟩
instance : PlC Try.prog 86 := ⟨pl86⟩
instance : PlC Try.prog 87 := ⟨pl87⟩
instance : PlC Try.prog 88 := ⟨pl88⟩
instance : PlC Try.prog 89 := ⟨pl89⟩
instance : PlC Try.prog 9 := ⟨pl9⟩
instance : PlC Try.prog 90 := ⟨pl90⟩
instance : PlC Try.prog 91 := ⟨pl91⟩
instance : PlC Try.prog 92 := ⟨pl92⟩
instance : PlC Try.prog 93 := ⟨pl93⟩
instance : PlC Try.prog 94 := ⟨pl94⟩
instance : PlC Try.prog 95 := ⟨pl95⟩
instance : PlC Try.prog 96 := ⟨pl96⟩
instance : PlC Try.prog 97 := ⟨pl97⟩
instance : PlC Try.prog 98 := ⟨pl98⟩
instance : PlC Try.prog 99 := ⟨pl99⟩
instance : ZvC Try.prog 111 := ⟨_, zv111⟩
instance : ZvC Try.prog 146 := ⟨_, zv146⟩
instance : ZvC Try.prog 26 := ⟨_, zv26⟩
instance : ZvC Try.prog 28 := ⟨_, zv28⟩
instance : ZvC Try.prog 30 := ⟨_, zv30⟩
instance : ZvC Try.prog 35 := ⟨_, zv35⟩
instance : ZvC Try.prog 37 := ⟨_, zv37⟩
instance : ZvC Try.prog 40 := ⟨_, zv40⟩
instance : ZvC Try.prog 59 := ⟨_, zv59⟩
instance : ZvC Try.prog 62 := ⟨_, zv62⟩
instance : ZvC Try.prog 84 := ⟨_, zv84⟩
instance : ZvC Try.prog 95 := ⟨_, zv95⟩
instance : UnC Try.prog 22 (.slice 5) := ⟨Try.underlying22⟩
instance : UnC Try.prog 24 (.slice 3) := ⟨Try.underlying24⟩
instance : UnC Try.prog 32 (.slice 111) := ⟨Try.underlying32⟩
instance : UnC Try.prog 33 (.slice 84) := ⟨Try.underlying33⟩
instance : UnC Try.prog 38 (.slice 95) := ⟨Try.underlying38⟩
instance : UnC Try.prog 54 (.slice 30) := ⟨Try.underlying54⟩
instance : UnC Try.prog 57 (.slice 40) := ⟨Try.underlying57⟩
instance : UnC Try.prog 68 (.slice 67) := ⟨Try.underlying68⟩
instance : UnC Try.prog 82 (.slice 146) := ⟨Try.underlying82⟩
instance : UnC Try.prog 96 (.slice 4) := ⟨Try.underlying96⟩
end Go.Kx
