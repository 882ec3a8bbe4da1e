/- Closed facts of the program's types and functions. Printed by drive.py. -/
import Derived.Test.YtecnkfamlpjbgaaProg
import Derived.Test.YtecnkfamlpjbgaaDat
namespace Go.Kx
open Go Go.RowKit Go.Proofs
set_option maxRecDepth 10000
set_option maxHeartbeats 2000000
set_option linter.unusedVariables false
set_option linter.unusedSimpArgs false
theorem ag3 : aggV Try.prog 3 = some none := by kernel_rfl
theorem ag44 : aggV Try.prog 44 = some (some 6) := by kernel_rfl
theorem ag46 : aggV Try.prog 46 = some (some 9) := by kernel_rfl
theorem ag47 : aggV Try.prog 47 = some none := by kernel_rfl
theorem ag49 : aggV Try.prog 49 = some (some 1) := by kernel_rfl
theorem ag52 : aggV Try.prog 52 = some (some 6) := by kernel_rfl
theorem ag54 : aggV Try.prog 54 = some (some 9) := by kernel_rfl
theorem ag56 : aggV Try.prog 56 = some (some 1) := by kernel_rfl
theorem ag61 : aggV Try.prog 61 = some (some 3) := by kernel_rfl
theorem ag67 : aggV Try.prog 67 = some (some 3) := by kernel_rfl
theorem ag71 : aggV Try.prog 71 = some (some 3) := by kernel_rfl
theorem ag73 : aggV Try.prog 73 = some (some 5) := by kernel_rfl
theorem ag76 : aggV Try.prog 76 = some (some 5) := by kernel_rfl
theorem ag9 : aggV Try.prog 9 = some none := by kernel_rfl
theorem fo44_0 : fo Try.prog 44 0 = some (0, none) := by kernel_rfl
theorem fo44_1 : fo Try.prog 44 1 = some (1, none) := by kernel_rfl
theorem fo44_2 : fo Try.prog 44 2 = some (2, none) := by kernel_rfl
theorem fo44_3 : fo Try.prog 44 3 = some (3, none) := by kernel_rfl
theorem fo44_4 : fo Try.prog 44 4 = some (4, none) := by kernel_rfl
theorem fo44_5 : fo Try.prog 44 5 = some (5, none) := by kernel_rfl
theorem fo46_0 : fo Try.prog 46 0 = some (0, none) := by kernel_rfl
theorem fo46_1 : fo Try.prog 46 1 = some (1, none) := by kernel_rfl
theorem fo46_2 : fo Try.prog 46 2 = some (2, none) := by kernel_rfl
theorem fo46_3 : fo Try.prog 46 3 = some (3, some 6) := by kernel_rfl
theorem fo49_0 : fo Try.prog 49 0 = some (0, none) := by kernel_rfl
theorem fo52_0 : fo Try.prog 52 0 = some (0, none) := by kernel_rfl
theorem fo52_1 : fo Try.prog 52 1 = some (1, none) := by kernel_rfl
theorem fo52_2 : fo Try.prog 52 2 = some (2, none) := by kernel_rfl
theorem fo52_3 : fo Try.prog 52 3 = some (3, none) := by kernel_rfl
theorem fo52_4 : fo Try.prog 52 4 = some (4, none) := by kernel_rfl
theorem fo52_5 : fo Try.prog 52 5 = some (5, none) := by kernel_rfl
theorem fo54_0 : fo Try.prog 54 0 = some (0, none) := by kernel_rfl
theorem fo54_1 : fo Try.prog 54 1 = some (1, none) := by kernel_rfl
theorem fo54_2 : fo Try.prog 54 2 = some (2, none) := by kernel_rfl
theorem fo54_3 : fo Try.prog 54 3 = some (3, some 6) := by kernel_rfl
theorem fo56_0 : fo Try.prog 56 0 = some (0, none) := by kernel_rfl
theorem fo61_0 : fo Try.prog 61 0 = some (0, none) := by kernel_rfl
theorem fo61_1 : fo Try.prog 61 1 = some (1, none) := by kernel_rfl
theorem fo61_2 : fo Try.prog 61 2 = some (2, none) := by kernel_rfl
theorem fo67_0 : fo Try.prog 67 0 = some (0, none) := by kernel_rfl
theorem fo67_1 : fo Try.prog 67 1 = some (1, none) := by kernel_rfl
theorem fo67_2 : fo Try.prog 67 2 = some (2, none) := by kernel_rfl
theorem fo71_0 : fo Try.prog 71 0 = some (0, none) := by kernel_rfl
theorem fo71_1 : fo Try.prog 71 1 = some (1, none) := by kernel_rfl
theorem fo71_2 : fo Try.prog 71 2 = some (2, none) := by kernel_rfl
theorem fo73_0 : fo Try.prog 73 0 = some (0, some 1) := by kernel_rfl
theorem fo73_1 : fo Try.prog 73 1 = some (1, none) := by kernel_rfl
theorem fo73_2 : fo Try.prog 73 2 = some (2, some 3) := by kernel_rfl
theorem fo76_0 : fo Try.prog 76 0 = some (0, some 1) := by kernel_rfl
theorem fo76_1 : fo Try.prog 76 1 = some (1, none) := by kernel_rfl
theorem fo76_2 : fo Try.prog 76 2 = some (2, some 3) := by kernel_rfl
theorem pl10 : plainFn Try.prog 10 = true := by kernel_rfl
theorem pl11 : plainFn Try.prog 11 = true := by kernel_rfl
theorem pl12 : plainFn Try.prog 12 = true := by kernel_rfl
theorem pl13 : plainFn Try.prog 13 = true := by kernel_rfl
theorem pl14 : plainFn Try.prog 14 = true := by kernel_rfl
theorem pl15 : plainFn Try.prog 15 = true := by kernel_rfl
theorem pl16 : plainFn Try.prog 16 = true := by kernel_rfl
theorem pl17 : plainFn Try.prog 17 = true := by kernel_rfl
theorem pl18 : plainFn Try.prog 18 = true := by kernel_rfl
theorem pl19 : plainFn Try.prog 19 = true := by kernel_rfl
theorem pl20 : plainFn Try.prog 20 = true := by kernel_rfl
theorem pl21 : plainFn Try.prog 21 = true := by kernel_rfl
theorem pl22 : plainFn Try.prog 22 = true := by kernel_rfl
theorem pl23 : plainFn Try.prog 23 = true := by kernel_rfl
theorem pl24 : plainFn Try.prog 24 = true := by kernel_rfl
theorem pl25 : plainFn Try.prog 25 = true := by kernel_rfl
theorem pl26 : plainFn Try.prog 26 = true := by kernel_rfl
theorem pl27 : plainFn Try.prog 27 = true := by kernel_rfl
theorem pl28 : plainFn Try.prog 28 = true := by kernel_rfl
theorem pl29 : plainFn Try.prog 29 = true := by kernel_rfl
theorem pl30 : plainFn Try.prog 30 = true := by kernel_rfl
theorem pl31 : plainFn Try.prog 31 = true := by kernel_rfl
theorem pl32 : plainFn Try.prog 32 = true := by kernel_rfl
theorem pl33 : plainFn Try.prog 33 = true := by kernel_rfl
theorem pl34 : plainFn Try.prog 34 = true := by kernel_rfl
theorem pl35 : plainFn Try.prog 35 = true := by kernel_rfl
theorem pl36 : plainFn Try.prog 36 = true := by kernel_rfl
theorem pl37 : plainFn Try.prog 37 = true := by kernel_rfl
theorem pl38 : plainFn Try.prog 38 = true := by kernel_rfl
theorem pl39 : plainFn Try.prog 39 = true := by kernel_rfl
theorem pl40 : plainFn Try.prog 40 = true := by kernel_rfl
theorem pl41 : plainFn Try.prog 41 = true := by kernel_rfl
theorem pl42 : plainFn Try.prog 42 = true := by kernel_rfl
theorem pl43 : plainFn Try.prog 43 = true := by kernel_rfl
theorem pl44 : plainFn Try.prog 44 = true := by kernel_rfl
theorem pl45 : plainFn Try.prog 45 = true := by kernel_rfl
theorem pl46 : plainFn Try.prog 46 = true := by kernel_rfl
theorem pl47 : plainFn Try.prog 47 = true := by kernel_rfl
theorem pl48 : plainFn Try.prog 48 = true := by kernel_rfl
theorem pl49 : plainFn Try.prog 49 = true := by kernel_rfl
theorem pl50 : plainFn Try.prog 50 = true := by kernel_rfl
theorem pl51 : plainFn Try.prog 51 = true := by kernel_rfl
theorem pl52 : plainFn Try.prog 52 = true := by kernel_rfl
theorem pl53 : plainFn Try.prog 53 = true := by kernel_rfl
theorem pl54 : plainFn Try.prog 54 = true := by kernel_rfl
theorem pl55 : plainFn Try.prog 55 = true := by kernel_rfl
theorem pl56 : plainFn Try.prog 56 = true := by kernel_rfl
theorem pl57 : plainFn Try.prog 57 = true := by kernel_rfl
theorem pl58 : plainFn Try.prog 58 = true := by kernel_rfl
theorem pl59 : plainFn Try.prog 59 = true := by kernel_rfl
theorem pl60 : plainFn Try.prog 60 = true := by kernel_rfl
theorem pl61 : plainFn Try.prog 61 = true := by kernel_rfl
theorem pl62 : plainFn Try.prog 62 = true := by kernel_rfl
theorem pl63 : plainFn Try.prog 63 = true := by kernel_rfl
theorem pl64 : plainFn Try.prog 64 = true := by kernel_rfl
theorem pl9 : plainFn Try.prog 9 = true := by kernel_rfl
theorem sT32 : SlT Try.prog 32 DEntry := SlT.of (b := 72) (by kernel_rfl) rfl
theorem sT39 : SlT Try.prog 39 DBoot := SlT.of (b := 72) (by kernel_rfl) rfl
theorem sT47 : SlT Try.prog 47 Int := SlT.of (b := 8) (by kernel_rfl) rfl
theorem sz3 : szV Try.prog 3 = some 1 := by kernel_rfl
theorem sz46 : szV Try.prog 46 = some 9 := by kernel_rfl
theorem sz54 : szV Try.prog 54 = some 9 := by kernel_rfl
theorem sz67 : szV Try.prog 67 = some 3 := by kernel_rfl
theorem sz73 : szV Try.prog 73 = some 5 := by kernel_rfl
theorem sz76 : szV Try.prog 76 = some 5 := by kernel_rfl
theorem sz9 : szV Try.prog 9 = some 1 := by kernel_rfl
theorem zv52 : zeroV Try.prog 52 = some (.agg #[.int .i64 0, .int .i64 0, .int .i64 0, .int .i64 0, .int .i64 0, .int .i64 0]) := by kernel_rfl
theorem zv54 : zeroV Try.prog 54 = some (.agg #[.int .i64 0, .int .i64 0, .int .i64 0, .int .i64 0, .int .i64 0, .int .i64 0, .int .i64 0, .int .i64 0, .int .i64 0]) := by kernel_rfl
theorem zv56 : zeroV Try.prog 56 = some (.agg #[.slice none 0 0]) := by kernel_rfl
theorem zv61 : zeroV Try.prog 61 = some (.agg #[.int .i64 0, .int .i64 0, .int .i64 0]) := by kernel_rfl
theorem zv76 : zeroV Try.prog 76 = some (.agg #[.slice none 0 0, .slice none 0 0, .int .i64 0, .int .i64 0, .int .i64 0]) := by kernel_rfl
end Go.Kx
