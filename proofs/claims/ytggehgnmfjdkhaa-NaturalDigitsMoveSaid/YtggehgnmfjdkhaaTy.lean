/- Closed facts on the plain types of this seat: sizes, bytes, zero values, places. -/
import Derived.Test.YtggehgnmfjdkhaaRows
import Derived.Test.YtggehgnmfjdkhaaAbs2
namespace Go.Proofs.Ytggehgnmfjdkhaa
set_option linter.unusedSimpArgs false
set_option linter.unusedVariables false
open Go.Abs
theorem sz2 : szO Try.prog 2 = some 1 := by kernel_rfl
theorem by2 : byO Try.prog 2 = some 8 := by kernel_rfl
theorem ze2 : zeroO Try.prog 2 = some [.int .i64 0] := by kernel_rfl
theorem ag2 : aggO Try.prog 2 = some false := by kernel_rfl
theorem el2 : elO Try.prog 2 = none := by kernel_rfl
theorem in2 : intO Try.prog 2 = some .i64 := by kernel_rfl
theorem em2 : emptyO Try.prog 2 = some (.ints .i64 []) := by kernel_rfl
theorem sz3 : szO Try.prog 3 = some 1 := by kernel_rfl
theorem by3 : byO Try.prog 3 = some 8 := by kernel_rfl
theorem ze3 : zeroO Try.prog 3 = some [.int .i64 0] := by kernel_rfl
theorem ag3 : aggO Try.prog 3 = some false := by kernel_rfl
theorem el3 : elO Try.prog 3 = none := by kernel_rfl
theorem in3 : intO Try.prog 3 = some .i64 := by kernel_rfl
theorem em3 : emptyO Try.prog 3 = some (.ints .i64 []) := by kernel_rfl
theorem sz4 : szO Try.prog 4 = some 1 := by kernel_rfl
theorem by4 : byO Try.prog 4 = some 1 := by kernel_rfl
theorem ze4 : zeroO Try.prog 4 = some [.bool false] := by kernel_rfl
theorem ag4 : aggO Try.prog 4 = some false := by kernel_rfl
theorem el4 : elO Try.prog 4 = none := by kernel_rfl
theorem em4 : emptyO Try.prog 4 = some (.bools []) := by kernel_rfl
theorem sz5 : szO Try.prog 5 = some 1 := by kernel_rfl
theorem by5 : byO Try.prog 5 = some 1 := by kernel_rfl
theorem ze5 : zeroO Try.prog 5 = some [.int .u8 0] := by kernel_rfl
theorem ag5 : aggO Try.prog 5 = some false := by kernel_rfl
theorem el5 : elO Try.prog 5 = none := by kernel_rfl
theorem in5 : intO Try.prog 5 = some .u8 := by kernel_rfl
theorem em5 : emptyO Try.prog 5 = some (.ints .u8 []) := by kernel_rfl
theorem sz9 : szO Try.prog 9 = some 1 := by kernel_rfl
theorem by9 : byO Try.prog 9 = some 16 := by kernel_rfl
theorem ze9 : zeroO Try.prog 9 = some [.string ByteArray.empty] := by kernel_rfl
theorem ag9 : aggO Try.prog 9 = some false := by kernel_rfl
theorem el9 : elO Try.prog 9 = none := by kernel_rfl
theorem em9 : emptyO Try.prog 9 = some (.sl 1 []) := by kernel_rfl
theorem sz12 : szO Try.prog 12 = some 1 := by kernel_rfl
theorem by12 : byO Try.prog 12 = some 8 := by kernel_rfl
theorem ze12 : zeroO Try.prog 12 = some [.int .u64 0] := by kernel_rfl
theorem ag12 : aggO Try.prog 12 = some false := by kernel_rfl
theorem el12 : elO Try.prog 12 = none := by kernel_rfl
theorem in12 : intO Try.prog 12 = some .u64 := by kernel_rfl
theorem em12 : emptyO Try.prog 12 = some (.ints .u64 []) := by kernel_rfl
theorem sz13 : szO Try.prog 13 = some 2 := by kernel_rfl
theorem by13 : byO Try.prog 13 = some 24 := by kernel_rfl
theorem ze13 : zeroO Try.prog 13 = some [.string ByteArray.empty, .int .u64 0] := by kernel_rfl
theorem ag13 : aggO Try.prog 13 = some true := by kernel_rfl
theorem el13 : elO Try.prog 13 = none := by kernel_rfl
theorem em13 : emptyO Try.prog 13 = some (.sl 2 []) := by kernel_rfl
theorem fd13_0 : fldO Try.prog 13 0 = some (0, 9) := by kernel_rfl
theorem fd13_1 : fldO Try.prog 13 1 = some (1, 12) := by kernel_rfl
theorem pl13 : plO Try.prog 13 = some [(0, 1), (1, 1)] := by kernel_rfl
theorem sz21 : szO Try.prog 21 = some 1 := by kernel_rfl
theorem by21 : byO Try.prog 21 = some 4 := by kernel_rfl
theorem ze21 : zeroO Try.prog 21 = some [.int .i32 0] := by kernel_rfl
theorem ag21 : aggO Try.prog 21 = some false := by kernel_rfl
theorem el21 : elO Try.prog 21 = none := by kernel_rfl
theorem in21 : intO Try.prog 21 = some .i32 := by kernel_rfl
theorem em21 : emptyO Try.prog 21 = some (.ints .i32 []) := by kernel_rfl
theorem sz22 : szO Try.prog 22 = some 1 := by kernel_rfl
theorem by22 : byO Try.prog 22 = some 24 := by kernel_rfl
theorem ze22 : zeroO Try.prog 22 = some [.slice none 0 0] := by kernel_rfl
theorem ag22 : aggO Try.prog 22 = some false := by kernel_rfl
theorem el22 : elO Try.prog 22 = some 58 := by kernel_rfl
theorem em22 : emptyO Try.prog 22 = some (.sl 1 []) := by kernel_rfl
theorem sz23 : szO Try.prog 23 = some 2 := by kernel_rfl
theorem by23 : byO Try.prog 23 = some 16 := by kernel_rfl
theorem ze23 : zeroO Try.prog 23 = some [.int .i64 0, .int .i64 0] := by kernel_rfl
theorem ag23 : aggO Try.prog 23 = some true := by kernel_rfl
theorem el23 : elO Try.prog 23 = none := by kernel_rfl
theorem em23 : emptyO Try.prog 23 = some (.sl 2 []) := by kernel_rfl
theorem fd23_0 : fldO Try.prog 23 0 = some (0, 3) := by kernel_rfl
theorem fd23_1 : fldO Try.prog 23 1 = some (1, 3) := by kernel_rfl
theorem pl23 : plO Try.prog 23 = some [(0, 1), (1, 1)] := by kernel_rfl
theorem sz24 : szO Try.prog 24 = some 2 := by kernel_rfl
theorem by24 : byO Try.prog 24 = some 16 := by kernel_rfl
theorem ze24 : zeroO Try.prog 24 = some [.int .i64 0, .int .i64 0] := by kernel_rfl
theorem ag24 : aggO Try.prog 24 = some true := by kernel_rfl
theorem el24 : elO Try.prog 24 = none := by kernel_rfl
theorem em24 : emptyO Try.prog 24 = some (.sl 2 []) := by kernel_rfl
theorem fd24_0 : fldO Try.prog 24 0 = some (0, 3) := by kernel_rfl
theorem fd24_1 : fldO Try.prog 24 1 = some (1, 3) := by kernel_rfl
theorem pl24 : plO Try.prog 24 = some [(0, 1), (1, 1)] := by kernel_rfl
theorem sz34 : szO Try.prog 34 = some 1 := by kernel_rfl
theorem by34 : byO Try.prog 34 = some 24 := by kernel_rfl
theorem ze34 : zeroO Try.prog 34 = some [.slice none 0 0] := by kernel_rfl
theorem ag34 : aggO Try.prog 34 = some false := by kernel_rfl
theorem el34 : elO Try.prog 34 = some 3 := by kernel_rfl
theorem em34 : emptyO Try.prog 34 = some (.sl 1 []) := by kernel_rfl
theorem sz35 : szO Try.prog 35 = some 1 := by kernel_rfl
theorem by35 : byO Try.prog 35 = some 24 := by kernel_rfl
theorem ze35 : zeroO Try.prog 35 = some [.slice none 0 0] := by kernel_rfl
theorem ag35 : aggO Try.prog 35 = some false := by kernel_rfl
theorem el35 : elO Try.prog 35 = some 3 := by kernel_rfl
theorem em35 : emptyO Try.prog 35 = some (.sl 1 []) := by kernel_rfl
theorem sz44 : szO Try.prog 44 = some 1 := by kernel_rfl
theorem by44 : byO Try.prog 44 = some 24 := by kernel_rfl
theorem ze44 : zeroO Try.prog 44 = some [.slice none 0 0] := by kernel_rfl
theorem ag44 : aggO Try.prog 44 = some false := by kernel_rfl
theorem el44 : elO Try.prog 44 = some 4 := by kernel_rfl
theorem em44 : emptyO Try.prog 44 = some (.sl 1 []) := by kernel_rfl
theorem sz58 : szO Try.prog 58 = some 1 := by kernel_rfl
theorem by58 : byO Try.prog 58 = some 4 := by kernel_rfl
theorem ze58 : zeroO Try.prog 58 = some [.int .u32 0] := by kernel_rfl
theorem ag58 : aggO Try.prog 58 = some false := by kernel_rfl
theorem el58 : elO Try.prog 58 = none := by kernel_rfl
theorem in58 : intO Try.prog 58 = some .u32 := by kernel_rfl
theorem em58 : emptyO Try.prog 58 = some (.ints .u32 []) := by kernel_rfl
theorem sz77 : szO Try.prog 77 = some 1 := by kernel_rfl
theorem by77 : byO Try.prog 77 = some 8 := by kernel_rfl
theorem ze77 : zeroO Try.prog 77 = some [.int .u64 0] := by kernel_rfl
theorem ag77 : aggO Try.prog 77 = some false := by kernel_rfl
theorem el77 : elO Try.prog 77 = none := by kernel_rfl
theorem in77 : intO Try.prog 77 = some .u64 := by kernel_rfl
theorem em77 : emptyO Try.prog 77 = some (.ints .u64 []) := by kernel_rfl
theorem sz78 : szO Try.prog 78 = some 1 := by kernel_rfl
theorem by78 : byO Try.prog 78 = some 8 := by kernel_rfl
theorem ze78 : zeroO Try.prog 78 = some [.int .u64 0] := by kernel_rfl
theorem ag78 : aggO Try.prog 78 = some false := by kernel_rfl
theorem el78 : elO Try.prog 78 = none := by kernel_rfl
theorem in78 : intO Try.prog 78 = some .u64 := by kernel_rfl
theorem em78 : emptyO Try.prog 78 = some (.ints .u64 []) := by kernel_rfl
theorem sz84 : szO Try.prog 84 = some 1 := by kernel_rfl
theorem by84 : byO Try.prog 84 = some 8 := by kernel_rfl
theorem ze84 : zeroO Try.prog 84 = some [.pointer none] := by kernel_rfl
theorem ag84 : aggO Try.prog 84 = some false := by kernel_rfl
theorem el84 : elO Try.prog 84 = none := by kernel_rfl
theorem em84 : emptyO Try.prog 84 = some (.sl 1 []) := by kernel_rfl
theorem sz95 : szO Try.prog 95 = some 1 := by kernel_rfl
theorem by95 : byO Try.prog 95 = some 8 := by kernel_rfl
theorem ze95 : zeroO Try.prog 95 = some [.pointer none] := by kernel_rfl
theorem ag95 : aggO Try.prog 95 = some false := by kernel_rfl
theorem el95 : elO Try.prog 95 = none := by kernel_rfl
theorem em95 : emptyO Try.prog 95 = some (.sl 1 []) := by kernel_rfl
theorem sz100 : szO Try.prog 100 = some 1 := by kernel_rfl
theorem by100 : byO Try.prog 100 = some 16 := by kernel_rfl
theorem ze100 : zeroO Try.prog 100 = some [.string ByteArray.empty] := by kernel_rfl
theorem ag100 : aggO Try.prog 100 = some true := by kernel_rfl
theorem el100 : elO Try.prog 100 = none := by kernel_rfl
theorem em100 : emptyO Try.prog 100 = some (.sl 1 []) := by kernel_rfl
theorem fd100_0 : fldO Try.prog 100 0 = some (0, 9) := by kernel_rfl
theorem pl100 : plO Try.prog 100 = some [(0, 1)] := by kernel_rfl
theorem sz101 : szO Try.prog 101 = some 1 := by kernel_rfl
theorem by101 : byO Try.prog 101 = some 16 := by kernel_rfl
theorem ze101 : zeroO Try.prog 101 = some [.string ByteArray.empty] := by kernel_rfl
theorem ag101 : aggO Try.prog 101 = some true := by kernel_rfl
theorem el101 : elO Try.prog 101 = none := by kernel_rfl
theorem em101 : emptyO Try.prog 101 = some (.sl 1 []) := by kernel_rfl
theorem fd101_0 : fldO Try.prog 101 0 = some (0, 9) := by kernel_rfl
theorem pl101 : plO Try.prog 101 = some [(0, 1)] := by kernel_rfl
attribute [go_sem] sz2 by2 ze2 ag2 el2 in2 em2 Try.underlying2 sz3 by3 ze3 ag3 el3 in3 em3 Try.underlying3 sz4 by4 ze4 ag4 el4 em4 Try.underlying4 sz5 by5 ze5 ag5 el5 in5 em5 Try.underlying5 sz9 by9 ze9 ag9 el9 em9 Try.underlying9 sz12 by12 ze12 ag12 el12 in12 em12 Try.underlying12 sz13 by13 ze13 ag13 el13 em13 fd13_0 fd13_1 pl13 Try.underlying13 sz21 by21 ze21 ag21 el21 in21 em21 Try.underlying21 sz22 by22 ze22 ag22 el22 em22 Try.underlying22 sz23 by23 ze23 ag23 el23 em23 fd23_0 fd23_1 pl23 Try.underlying23 sz24 by24 ze24 ag24 el24 em24 fd24_0 fd24_1 pl24 Try.underlying24 sz34 by34 ze34 ag34 el34 em34 Try.underlying34 sz35 by35 ze35 ag35 el35 em35 Try.underlying35 sz44 by44 ze44 ag44 el44 em44 Try.underlying44 sz58 by58 ze58 ag58 el58 in58 em58 Try.underlying58 sz77 by77 ze77 ag77 el77 in77 em77 Try.underlying77 sz78 by78 ze78 ag78 el78 in78 em78 Try.underlying78 sz84 by84 ze84 ag84 el84 em84 Try.underlying84 sz95 by95 ze95 ag95 el95 em95 Try.underlying95 sz100 by100 ze100 ag100 el100 em100 fd100_0 pl100 Try.underlying100 sz101 by101 ze101 ag101 el101 em101 fd101_0 pl101 Try.underlying101

end Go.Proofs.Ytggehgnmfjdkhaa
