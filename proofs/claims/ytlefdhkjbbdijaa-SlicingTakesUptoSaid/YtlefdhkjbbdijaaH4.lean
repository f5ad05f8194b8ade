import Derived.Test.YtlefdhkjbbdijaaH3
import Derived.Test.YtlefdhkjbbdijaaRows
namespace Go.Proofs.Ytlefdhkjbbdijaa
set_option linter.unusedSimpArgs false
set_option linter.unusedVariables false
open Go.Abs
theorem sz2 : szO Try.prog 2 = some 1 := by kernel_rfl
theorem by2 : byO Try.prog 2 = some 8 := by kernel_rfl
theorem ze2 : zeroO Try.prog 2 = some [.int .i64 0] := by kernel_rfl
theorem ag2 : aggO Try.prog 2 = some false := by kernel_rfl
theorem el2 : elO Try.prog 2 = none := by kernel_rfl
theorem in2 : intO Try.prog 2 = some .i64 := by kernel_rfl
theorem st2 : strO Try.prog 2 = false := by kernel_rfl
theorem u82 : u8O Try.prog 2 = false := by kernel_rfl
theorem em2 : emptyO Try.prog 2 = some (.ints .i64 []) := by kernel_rfl
theorem sz3 : szO Try.prog 3 = some 1 := by kernel_rfl
theorem by3 : byO Try.prog 3 = some 8 := by kernel_rfl
theorem ze3 : zeroO Try.prog 3 = some [.int .i64 0] := by kernel_rfl
theorem ag3 : aggO Try.prog 3 = some false := by kernel_rfl
theorem el3 : elO Try.prog 3 = none := by kernel_rfl
theorem in3 : intO Try.prog 3 = some .i64 := by kernel_rfl
theorem st3 : strO Try.prog 3 = false := by kernel_rfl
theorem u83 : u8O Try.prog 3 = false := by kernel_rfl
theorem em3 : emptyO Try.prog 3 = some (.ints .i64 []) := by kernel_rfl
theorem sz4 : szO Try.prog 4 = some 1 := by kernel_rfl
theorem by4 : byO Try.prog 4 = some 1 := by kernel_rfl
theorem ze4 : zeroO Try.prog 4 = some [.bool false] := by kernel_rfl
theorem ag4 : aggO Try.prog 4 = some false := by kernel_rfl
theorem el4 : elO Try.prog 4 = none := by kernel_rfl
theorem st4 : strO Try.prog 4 = false := by kernel_rfl
theorem u84 : u8O Try.prog 4 = false := by kernel_rfl
theorem em4 : emptyO Try.prog 4 = some (.bools []) := by kernel_rfl
theorem sz5 : szO Try.prog 5 = some 1 := by kernel_rfl
theorem by5 : byO Try.prog 5 = some 1 := by kernel_rfl
theorem ze5 : zeroO Try.prog 5 = some [.int .u8 0] := by kernel_rfl
theorem ag5 : aggO Try.prog 5 = some false := by kernel_rfl
theorem el5 : elO Try.prog 5 = none := by kernel_rfl
theorem in5 : intO Try.prog 5 = some .u8 := by kernel_rfl
theorem st5 : strO Try.prog 5 = false := by kernel_rfl
theorem u85 : u8O Try.prog 5 = false := by kernel_rfl
theorem em5 : emptyO Try.prog 5 = some (.ints .u8 []) := by kernel_rfl
theorem sz9 : szO Try.prog 9 = some 1 := by kernel_rfl
theorem by9 : byO Try.prog 9 = some 16 := by kernel_rfl
theorem ze9 : zeroO Try.prog 9 = some [.string ByteArray.empty] := by kernel_rfl
theorem ag9 : aggO Try.prog 9 = some false := by kernel_rfl
theorem el9 : elO Try.prog 9 = none := by kernel_rfl
theorem st9 : strO Try.prog 9 = true := by kernel_rfl
theorem u89 : u8O Try.prog 9 = false := by kernel_rfl
theorem em9 : emptyO Try.prog 9 = some (.sl 1 []) := by kernel_rfl
theorem sz12 : szO Try.prog 12 = some 1 := by kernel_rfl
theorem by12 : byO Try.prog 12 = some 8 := by kernel_rfl
theorem ze12 : zeroO Try.prog 12 = some [.int .u64 0] := by kernel_rfl
theorem ag12 : aggO Try.prog 12 = some false := by kernel_rfl
theorem el12 : elO Try.prog 12 = none := by kernel_rfl
theorem in12 : intO Try.prog 12 = some .u64 := by kernel_rfl
theorem st12 : strO Try.prog 12 = false := by kernel_rfl
theorem u812 : u8O Try.prog 12 = false := by kernel_rfl
theorem em12 : emptyO Try.prog 12 = some (.ints .u64 []) := by kernel_rfl
theorem sz13 : szO Try.prog 13 = some 2 := by kernel_rfl
theorem by13 : byO Try.prog 13 = some 24 := by kernel_rfl
theorem ze13 : zeroO Try.prog 13 = some [.string ByteArray.empty, .int .u64 0] := by kernel_rfl
theorem ag13 : aggO Try.prog 13 = some true := by kernel_rfl
theorem el13 : elO Try.prog 13 = none := by kernel_rfl
theorem st13 : strO Try.prog 13 = false := by kernel_rfl
theorem u813 : u8O Try.prog 13 = false := by kernel_rfl
theorem em13 : emptyO Try.prog 13 = some (.sl 2 []) := by kernel_rfl
theorem fd13_0 : fldO Try.prog 13 0 = some (0, 9) := by kernel_rfl
theorem fd13_1 : fldO Try.prog 13 1 = some (1, 12) := by kernel_rfl
theorem pl13 : plO Try.prog 13 = some [(0, 1), (1, 1)] := by kernel_rfl
theorem sz21 : szO Try.prog 21 = some 1 := by kernel_rfl
theorem by21 : byO Try.prog 21 = some 4 := by kernel_rfl
theorem ze21 : zeroO Try.prog 21 = some [.int .i32 0] := by kernel_rfl
theorem ag21 : aggO Try.prog 21 = some false := by kernel_rfl
theorem el21 : elO Try.prog 21 = none := by kernel_rfl
theorem in21 : intO Try.prog 21 = some .i32 := by kernel_rfl
theorem st21 : strO Try.prog 21 = false := by kernel_rfl
theorem u821 : u8O Try.prog 21 = false := by kernel_rfl
theorem em21 : emptyO Try.prog 21 = some (.ints .i32 []) := by kernel_rfl
theorem sz22 : szO Try.prog 22 = some 1 := by kernel_rfl
theorem by22 : byO Try.prog 22 = some 24 := by kernel_rfl
theorem ze22 : zeroO Try.prog 22 = some [.slice none 0 0] := by kernel_rfl
theorem ag22 : aggO Try.prog 22 = some false := by kernel_rfl
theorem el22 : elO Try.prog 22 = some 95 := by kernel_rfl
theorem st22 : strO Try.prog 22 = false := by kernel_rfl
theorem u822 : u8O Try.prog 22 = false := by kernel_rfl
theorem em22 : emptyO Try.prog 22 = some (.sl 1 []) := by kernel_rfl
theorem sz23 : szO Try.prog 23 = some 2 := by kernel_rfl
theorem by23 : byO Try.prog 23 = some 32 := by kernel_rfl
theorem ze23 : zeroO Try.prog 23 = some [.bool false, .slice none 0 0] := by kernel_rfl
theorem ag23 : aggO Try.prog 23 = some true := by kernel_rfl
theorem el23 : elO Try.prog 23 = none := by kernel_rfl
theorem st23 : strO Try.prog 23 = false := by kernel_rfl
theorem u823 : u8O Try.prog 23 = false := by kernel_rfl
theorem em23 : emptyO Try.prog 23 = some (.sl 2 []) := by kernel_rfl
theorem fd23_0 : fldO Try.prog 23 0 = some (0, 4) := by kernel_rfl
theorem fd23_1 : fldO Try.prog 23 1 = some (1, 22) := by kernel_rfl
theorem pl23 : plO Try.prog 23 = some [(0, 1), (1, 1)] := by kernel_rfl
theorem sz24 : szO Try.prog 24 = some 2 := by kernel_rfl
theorem by24 : byO Try.prog 24 = some 32 := by kernel_rfl
theorem ze24 : zeroO Try.prog 24 = some [.bool false, .slice none 0 0] := by kernel_rfl
theorem ag24 : aggO Try.prog 24 = some true := by kernel_rfl
theorem el24 : elO Try.prog 24 = none := by kernel_rfl
theorem st24 : strO Try.prog 24 = false := by kernel_rfl
theorem u824 : u8O Try.prog 24 = false := by kernel_rfl
theorem em24 : emptyO Try.prog 24 = some (.sl 2 []) := by kernel_rfl
theorem fd24_0 : fldO Try.prog 24 0 = some (0, 4) := by kernel_rfl
theorem fd24_1 : fldO Try.prog 24 1 = some (1, 22) := by kernel_rfl
theorem pl24 : plO Try.prog 24 = some [(0, 1), (1, 1)] := by kernel_rfl
theorem sz25 : szO Try.prog 25 = some 4 := by kernel_rfl
theorem by25 : byO Try.prog 25 = some 64 := by kernel_rfl
theorem ze25 : zeroO Try.prog 25 = some [.bool false, .slice none 0 0, .bool false, .slice none 0 0] := by kernel_rfl
theorem ag25 : aggO Try.prog 25 = some true := by kernel_rfl
theorem el25 : elO Try.prog 25 = none := by kernel_rfl
theorem st25 : strO Try.prog 25 = false := by kernel_rfl
theorem u825 : u8O Try.prog 25 = false := by kernel_rfl
theorem em25 : emptyO Try.prog 25 = some (.sl 4 []) := by kernel_rfl
theorem fd25_0 : fldO Try.prog 25 0 = some (0, 24) := by kernel_rfl
theorem fd25_1 : fldO Try.prog 25 1 = some (2, 24) := by kernel_rfl
theorem pl25 : plO Try.prog 25 = some [(0, 2), (2, 2)] := by kernel_rfl
theorem sz26 : szO Try.prog 26 = some 4 := by kernel_rfl
theorem by26 : byO Try.prog 26 = some 64 := by kernel_rfl
theorem ze26 : zeroO Try.prog 26 = some [.bool false, .slice none 0 0, .bool false, .slice none 0 0] := by kernel_rfl
theorem ag26 : aggO Try.prog 26 = some true := by kernel_rfl
theorem el26 : elO Try.prog 26 = none := by kernel_rfl
theorem st26 : strO Try.prog 26 = false := by kernel_rfl
theorem u826 : u8O Try.prog 26 = false := by kernel_rfl
theorem em26 : emptyO Try.prog 26 = some (.sl 4 []) := by kernel_rfl
theorem fd26_0 : fldO Try.prog 26 0 = some (0, 24) := by kernel_rfl
theorem fd26_1 : fldO Try.prog 26 1 = some (2, 24) := by kernel_rfl
theorem pl26 : plO Try.prog 26 = some [(0, 2), (2, 2)] := by kernel_rfl
theorem sz29 : szO Try.prog 29 = some 2 := by kernel_rfl
theorem by29 : byO Try.prog 29 = some 16 := by kernel_rfl
theorem ze29 : zeroO Try.prog 29 = some [.int .i64 0, .int .i64 0] := by kernel_rfl
theorem ag29 : aggO Try.prog 29 = some true := by kernel_rfl
theorem el29 : elO Try.prog 29 = none := by kernel_rfl
theorem st29 : strO Try.prog 29 = false := by kernel_rfl
theorem u829 : u8O Try.prog 29 = false := by kernel_rfl
theorem em29 : emptyO Try.prog 29 = some (.sl 2 []) := by kernel_rfl
theorem fd29_0 : fldO Try.prog 29 0 = some (0, 3) := by kernel_rfl
theorem fd29_1 : fldO Try.prog 29 1 = some (1, 3) := by kernel_rfl
theorem pl29 : plO Try.prog 29 = some [(0, 1), (1, 1)] := by kernel_rfl
theorem sz30 : szO Try.prog 30 = some 2 := by kernel_rfl
theorem by30 : byO Try.prog 30 = some 16 := by kernel_rfl
theorem ze30 : zeroO Try.prog 30 = some [.int .i64 0, .int .i64 0] := by kernel_rfl
theorem ag30 : aggO Try.prog 30 = some true := by kernel_rfl
theorem el30 : elO Try.prog 30 = none := by kernel_rfl
theorem st30 : strO Try.prog 30 = false := by kernel_rfl
theorem u830 : u8O Try.prog 30 = false := by kernel_rfl
theorem em30 : emptyO Try.prog 30 = some (.sl 2 []) := by kernel_rfl
theorem fd30_0 : fldO Try.prog 30 0 = some (0, 3) := by kernel_rfl
theorem fd30_1 : fldO Try.prog 30 1 = some (1, 3) := by kernel_rfl
theorem pl30 : plO Try.prog 30 = some [(0, 1), (1, 1)] := by kernel_rfl
theorem sz34 : szO Try.prog 34 = some 1 := by kernel_rfl
theorem by34 : byO Try.prog 34 = some 24 := by kernel_rfl
theorem ze34 : zeroO Try.prog 34 = some [.slice none 0 0] := by kernel_rfl
theorem ag34 : aggO Try.prog 34 = some false := by kernel_rfl
theorem el34 : elO Try.prog 34 = some 3 := by kernel_rfl
theorem st34 : strO Try.prog 34 = false := by kernel_rfl
theorem u834 : u8O Try.prog 34 = false := by kernel_rfl
theorem em34 : emptyO Try.prog 34 = some (.sl 1 []) := by kernel_rfl
theorem sz35 : szO Try.prog 35 = some 1 := by kernel_rfl
theorem by35 : byO Try.prog 35 = some 24 := by kernel_rfl
theorem ze35 : zeroO Try.prog 35 = some [.slice none 0 0] := by kernel_rfl
theorem ag35 : aggO Try.prog 35 = some false := by kernel_rfl
theorem el35 : elO Try.prog 35 = some 3 := by kernel_rfl
theorem st35 : strO Try.prog 35 = false := by kernel_rfl
theorem u835 : u8O Try.prog 35 = false := by kernel_rfl
theorem em35 : emptyO Try.prog 35 = some (.sl 1 []) := by kernel_rfl
theorem sz36 : szO Try.prog 36 = some 2 := by kernel_rfl
theorem by36 : byO Try.prog 36 = some 32 := by kernel_rfl
theorem ze36 : zeroO Try.prog 36 = some [.bool false, .slice none 0 0] := by kernel_rfl
theorem ag36 : aggO Try.prog 36 = some true := by kernel_rfl
theorem el36 : elO Try.prog 36 = none := by kernel_rfl
theorem st36 : strO Try.prog 36 = false := by kernel_rfl
theorem u836 : u8O Try.prog 36 = false := by kernel_rfl
theorem em36 : emptyO Try.prog 36 = some (.sl 2 []) := by kernel_rfl
theorem fd36_0 : fldO Try.prog 36 0 = some (0, 4) := by kernel_rfl
theorem fd36_1 : fldO Try.prog 36 1 = some (1, 35) := by kernel_rfl
theorem pl36 : plO Try.prog 36 = some [(0, 1), (1, 1)] := by kernel_rfl
theorem sz37 : szO Try.prog 37 = some 2 := by kernel_rfl
theorem by37 : byO Try.prog 37 = some 32 := by kernel_rfl
theorem ze37 : zeroO Try.prog 37 = some [.bool false, .slice none 0 0] := by kernel_rfl
theorem ag37 : aggO Try.prog 37 = some true := by kernel_rfl
theorem el37 : elO Try.prog 37 = none := by kernel_rfl
theorem st37 : strO Try.prog 37 = false := by kernel_rfl
theorem u837 : u8O Try.prog 37 = false := by kernel_rfl
theorem em37 : emptyO Try.prog 37 = some (.sl 2 []) := by kernel_rfl
theorem fd37_0 : fldO Try.prog 37 0 = some (0, 4) := by kernel_rfl
theorem fd37_1 : fldO Try.prog 37 1 = some (1, 35) := by kernel_rfl
theorem pl37 : plO Try.prog 37 = some [(0, 1), (1, 1)] := by kernel_rfl
theorem sz38 : szO Try.prog 38 = some 3 := by kernel_rfl
theorem by38 : byO Try.prog 38 = some 56 := by kernel_rfl
theorem ze38 : zeroO Try.prog 38 = some [.bool false, .slice none 0 0, .slice none 0 0] := by kernel_rfl
theorem ag38 : aggO Try.prog 38 = some true := by kernel_rfl
theorem el38 : elO Try.prog 38 = none := by kernel_rfl
theorem st38 : strO Try.prog 38 = false := by kernel_rfl
theorem u838 : u8O Try.prog 38 = false := by kernel_rfl
theorem em38 : emptyO Try.prog 38 = some (.sl 3 []) := by kernel_rfl
theorem fd38_0 : fldO Try.prog 38 0 = some (0, 37) := by kernel_rfl
theorem fd38_1 : fldO Try.prog 38 1 = some (2, 35) := by kernel_rfl
theorem pl38 : plO Try.prog 38 = some [(0, 2), (2, 1)] := by kernel_rfl
theorem sz39 : szO Try.prog 39 = some 3 := by kernel_rfl
theorem by39 : byO Try.prog 39 = some 56 := by kernel_rfl
theorem ze39 : zeroO Try.prog 39 = some [.bool false, .slice none 0 0, .slice none 0 0] := by kernel_rfl
theorem ag39 : aggO Try.prog 39 = some true := by kernel_rfl
theorem el39 : elO Try.prog 39 = none := by kernel_rfl
theorem st39 : strO Try.prog 39 = false := by kernel_rfl
theorem u839 : u8O Try.prog 39 = false := by kernel_rfl
theorem em39 : emptyO Try.prog 39 = some (.sl 3 []) := by kernel_rfl
theorem fd39_0 : fldO Try.prog 39 0 = some (0, 37) := by kernel_rfl
theorem fd39_1 : fldO Try.prog 39 1 = some (2, 35) := by kernel_rfl
theorem pl39 : plO Try.prog 39 = some [(0, 2), (2, 1)] := by kernel_rfl
theorem sz51 : szO Try.prog 51 = some 1 := by kernel_rfl
theorem by51 : byO Try.prog 51 = some 24 := by kernel_rfl
theorem ze51 : zeroO Try.prog 51 = some [.slice none 0 0] := by kernel_rfl
theorem ag51 : aggO Try.prog 51 = some false := by kernel_rfl
theorem el51 : elO Try.prog 51 = some 24 := by kernel_rfl
theorem st51 : strO Try.prog 51 = false := by kernel_rfl
theorem u851 : u8O Try.prog 51 = false := by kernel_rfl
theorem em51 : emptyO Try.prog 51 = some (.sl 1 []) := by kernel_rfl
theorem sz68 : szO Try.prog 68 = some 1 := by kernel_rfl
theorem by68 : byO Try.prog 68 = some 24 := by kernel_rfl
theorem ze68 : zeroO Try.prog 68 = some [.slice none 0 0] := by kernel_rfl
theorem ag68 : aggO Try.prog 68 = some false := by kernel_rfl
theorem el68 : elO Try.prog 68 = some 26 := by kernel_rfl
theorem st68 : strO Try.prog 68 = false := by kernel_rfl
theorem u868 : u8O Try.prog 68 = false := by kernel_rfl
theorem em68 : emptyO Try.prog 68 = some (.sl 1 []) := by kernel_rfl
theorem sz79 : szO Try.prog 79 = some 9 := by kernel_rfl
theorem by79 : byO Try.prog 79 = some 104 := by kernel_rfl
theorem ze79 : zeroO Try.prog 79 = some [.bool false, .slice none 0 0, .bool false, .slice none 0 0, .bool false, .slice none 0 0, .bool false, .bool false, .bool false] := by kernel_rfl
theorem ag79 : aggO Try.prog 79 = some true := by kernel_rfl
theorem el79 : elO Try.prog 79 = none := by kernel_rfl
theorem st79 : strO Try.prog 79 = false := by kernel_rfl
theorem u879 : u8O Try.prog 79 = false := by kernel_rfl
theorem em79 : emptyO Try.prog 79 = some (.sl 9 []) := by kernel_rfl
theorem fd79_0 : fldO Try.prog 79 0 = some (0, 24) := by kernel_rfl
theorem fd79_1 : fldO Try.prog 79 1 = some (2, 24) := by kernel_rfl
theorem fd79_2 : fldO Try.prog 79 2 = some (4, 24) := by kernel_rfl
theorem fd79_3 : fldO Try.prog 79 3 = some (6, 4) := by kernel_rfl
theorem fd79_4 : fldO Try.prog 79 4 = some (7, 4) := by kernel_rfl
theorem fd79_5 : fldO Try.prog 79 5 = some (8, 4) := by kernel_rfl
theorem pl79 : plO Try.prog 79 = some [(0, 2), (2, 2), (4, 2), (6, 1), (7, 1), (8, 1)] := by kernel_rfl
theorem sz80 : szO Try.prog 80 = some 9 := by kernel_rfl
theorem by80 : byO Try.prog 80 = some 104 := by kernel_rfl
theorem ze80 : zeroO Try.prog 80 = some [.bool false, .slice none 0 0, .bool false, .slice none 0 0, .bool false, .slice none 0 0, .bool false, .bool false, .bool false] := by kernel_rfl
theorem ag80 : aggO Try.prog 80 = some true := by kernel_rfl
theorem el80 : elO Try.prog 80 = none := by kernel_rfl
theorem st80 : strO Try.prog 80 = false := by kernel_rfl
theorem u880 : u8O Try.prog 80 = false := by kernel_rfl
theorem em80 : emptyO Try.prog 80 = some (.sl 9 []) := by kernel_rfl
theorem fd80_0 : fldO Try.prog 80 0 = some (0, 24) := by kernel_rfl
theorem fd80_1 : fldO Try.prog 80 1 = some (2, 24) := by kernel_rfl
theorem fd80_2 : fldO Try.prog 80 2 = some (4, 24) := by kernel_rfl
theorem fd80_3 : fldO Try.prog 80 3 = some (6, 4) := by kernel_rfl
theorem fd80_4 : fldO Try.prog 80 4 = some (7, 4) := by kernel_rfl
theorem fd80_5 : fldO Try.prog 80 5 = some (8, 4) := by kernel_rfl
theorem pl80 : plO Try.prog 80 = some [(0, 2), (2, 2), (4, 2), (6, 1), (7, 1), (8, 1)] := by kernel_rfl
theorem sz94 : szO Try.prog 94 = some 1 := by kernel_rfl
theorem by94 : byO Try.prog 94 = some 8 := by kernel_rfl
theorem ze94 : zeroO Try.prog 94 = some [.int .u64 0] := by kernel_rfl
theorem ag94 : aggO Try.prog 94 = some false := by kernel_rfl
theorem el94 : elO Try.prog 94 = none := by kernel_rfl
theorem in94 : intO Try.prog 94 = some .u64 := by kernel_rfl
theorem st94 : strO Try.prog 94 = false := by kernel_rfl
theorem u894 : u8O Try.prog 94 = false := by kernel_rfl
theorem em94 : emptyO Try.prog 94 = some (.ints .u64 []) := by kernel_rfl
theorem sz95 : szO Try.prog 95 = some 1 := by kernel_rfl
theorem by95 : byO Try.prog 95 = some 4 := by kernel_rfl
theorem ze95 : zeroO Try.prog 95 = some [.int .u32 0] := by kernel_rfl
theorem ag95 : aggO Try.prog 95 = some false := by kernel_rfl
theorem el95 : elO Try.prog 95 = none := by kernel_rfl
theorem in95 : intO Try.prog 95 = some .u32 := by kernel_rfl
theorem st95 : strO Try.prog 95 = false := by kernel_rfl
theorem u895 : u8O Try.prog 95 = false := by kernel_rfl
theorem em95 : emptyO Try.prog 95 = some (.ints .u32 []) := by kernel_rfl
theorem sz96 : szO Try.prog 96 = some 1 := by kernel_rfl
theorem by96 : byO Try.prog 96 = some 8 := by kernel_rfl
theorem ze96 : zeroO Try.prog 96 = some [.int .u64 0] := by kernel_rfl
theorem ag96 : aggO Try.prog 96 = some false := by kernel_rfl
theorem el96 : elO Try.prog 96 = none := by kernel_rfl
theorem in96 : intO Try.prog 96 = some .u64 := by kernel_rfl
theorem st96 : strO Try.prog 96 = false := by kernel_rfl
theorem u896 : u8O Try.prog 96 = false := by kernel_rfl
theorem em96 : emptyO Try.prog 96 = some (.ints .u64 []) := by kernel_rfl
theorem sz98 : szO Try.prog 98 = some 1 := by kernel_rfl
theorem by98 : byO Try.prog 98 = some 24 := by kernel_rfl
theorem ze98 : zeroO Try.prog 98 = some [.slice none 0 0] := by kernel_rfl
theorem ag98 : aggO Try.prog 98 = some false := by kernel_rfl
theorem el98 : elO Try.prog 98 = some 4 := by kernel_rfl
theorem st98 : strO Try.prog 98 = false := by kernel_rfl
theorem u898 : u8O Try.prog 98 = false := by kernel_rfl
theorem em98 : emptyO Try.prog 98 = some (.sl 1 []) := by kernel_rfl
theorem sz121 : szO Try.prog 121 = some 1 := by kernel_rfl
theorem by121 : byO Try.prog 121 = some 8 := by kernel_rfl
theorem ze121 : zeroO Try.prog 121 = some [.map none] := by kernel_rfl
theorem ag121 : aggO Try.prog 121 = some false := by kernel_rfl
theorem el121 : elO Try.prog 121 = none := by kernel_rfl
theorem mo121 : mapO Try.prog 121 = some (3, 4) := by kernel_rfl
theorem zv4 : zvO Try.prog 4 = some (.bool false) := by kernel_rfl
theorem st121 : strO Try.prog 121 = false := by kernel_rfl
theorem u8121 : u8O Try.prog 121 = false := by kernel_rfl
theorem em121 : emptyO Try.prog 121 = some (.sl 1 []) := by kernel_rfl
theorem sz127 : szO Try.prog 127 = some 4 := by kernel_rfl
theorem by127 : byO Try.prog 127 = some 64 := by kernel_rfl
theorem ze127 : zeroO Try.prog 127 = some [.bool false, .slice none 0 0, .bool false, .slice none 0 0] := by kernel_rfl
theorem ag127 : aggO Try.prog 127 = some true := by kernel_rfl
theorem el127 : elO Try.prog 127 = none := by kernel_rfl
theorem st127 : strO Try.prog 127 = false := by kernel_rfl
theorem u8127 : u8O Try.prog 127 = false := by kernel_rfl
theorem em127 : emptyO Try.prog 127 = some (.sl 4 []) := by kernel_rfl
theorem fd127_0 : fldO Try.prog 127 0 = some (0, 24) := by kernel_rfl
theorem fd127_1 : fldO Try.prog 127 1 = some (2, 24) := by kernel_rfl
theorem pl127 : plO Try.prog 127 = some [(0, 2), (2, 2)] := by kernel_rfl
theorem sz128 : szO Try.prog 128 = some 4 := by kernel_rfl
theorem by128 : byO Try.prog 128 = some 64 := by kernel_rfl
theorem ze128 : zeroO Try.prog 128 = some [.bool false, .slice none 0 0, .bool false, .slice none 0 0] := by kernel_rfl
theorem ag128 : aggO Try.prog 128 = some true := by kernel_rfl
theorem el128 : elO Try.prog 128 = none := by kernel_rfl
theorem st128 : strO Try.prog 128 = false := by kernel_rfl
theorem u8128 : u8O Try.prog 128 = false := by kernel_rfl
theorem em128 : emptyO Try.prog 128 = some (.sl 4 []) := by kernel_rfl
theorem fd128_0 : fldO Try.prog 128 0 = some (0, 24) := by kernel_rfl
theorem fd128_1 : fldO Try.prog 128 1 = some (2, 24) := by kernel_rfl
theorem pl128 : plO Try.prog 128 = some [(0, 2), (2, 2)] := by kernel_rfl
theorem sz143 : szO Try.prog 143 = some 1 := by kernel_rfl
theorem by143 : byO Try.prog 143 = some 24 := by kernel_rfl
theorem ze143 : zeroO Try.prog 143 = some [.slice none 0 0] := by kernel_rfl
theorem ag143 : aggO Try.prog 143 = some false := by kernel_rfl
theorem el143 : elO Try.prog 143 = some 34 := by kernel_rfl
theorem st143 : strO Try.prog 143 = false := by kernel_rfl
theorem u8143 : u8O Try.prog 143 = false := by kernel_rfl
theorem em143 : emptyO Try.prog 143 = some (.sl 1 []) := by kernel_rfl
theorem sz146 : szO Try.prog 146 = some 1 := by kernel_rfl
theorem by146 : byO Try.prog 146 = some 24 := by kernel_rfl
theorem ze146 : zeroO Try.prog 146 = some [.slice none 0 0] := by kernel_rfl
theorem ag146 : aggO Try.prog 146 = some false := by kernel_rfl
theorem el146 : elO Try.prog 146 = some 5 := by kernel_rfl
theorem st146 : strO Try.prog 146 = false := by kernel_rfl
theorem u8146 : u8O Try.prog 146 = true := by kernel_rfl
theorem em146 : emptyO Try.prog 146 = some (.sl 1 []) := by kernel_rfl
theorem sz163 : szO Try.prog 163 = some 1 := by kernel_rfl
theorem by163 : byO Try.prog 163 = some 8 := by kernel_rfl
theorem ze163 : zeroO Try.prog 163 = some [.pointer none] := by kernel_rfl
theorem ag163 : aggO Try.prog 163 = some false := by kernel_rfl
theorem el163 : elO Try.prog 163 = none := by kernel_rfl
theorem st163 : strO Try.prog 163 = false := by kernel_rfl
theorem u8163 : u8O Try.prog 163 = false := by kernel_rfl
theorem em163 : emptyO Try.prog 163 = some (.sl 1 []) := by kernel_rfl
theorem sz174 : szO Try.prog 174 = some 1 := by kernel_rfl
theorem by174 : byO Try.prog 174 = some 8 := by kernel_rfl
theorem ze174 : zeroO Try.prog 174 = some [.pointer none] := by kernel_rfl
theorem ag174 : aggO Try.prog 174 = some false := by kernel_rfl
theorem el174 : elO Try.prog 174 = none := by kernel_rfl
theorem st174 : strO Try.prog 174 = false := by kernel_rfl
theorem u8174 : u8O Try.prog 174 = false := by kernel_rfl
theorem em174 : emptyO Try.prog 174 = some (.sl 1 []) := by kernel_rfl
theorem sz179 : szO Try.prog 179 = some 1 := by kernel_rfl
theorem by179 : byO Try.prog 179 = some 16 := by kernel_rfl
theorem ze179 : zeroO Try.prog 179 = some [.string ByteArray.empty] := by kernel_rfl
theorem ag179 : aggO Try.prog 179 = some true := by kernel_rfl
theorem el179 : elO Try.prog 179 = none := by kernel_rfl
theorem st179 : strO Try.prog 179 = false := by kernel_rfl
theorem u8179 : u8O Try.prog 179 = false := by kernel_rfl
theorem em179 : emptyO Try.prog 179 = some (.sl 1 []) := by kernel_rfl
theorem fd179_0 : fldO Try.prog 179 0 = some (0, 9) := by kernel_rfl
theorem pl179 : plO Try.prog 179 = some [(0, 1)] := by kernel_rfl
theorem sz180 : szO Try.prog 180 = some 1 := by kernel_rfl
theorem by180 : byO Try.prog 180 = some 16 := by kernel_rfl
theorem ze180 : zeroO Try.prog 180 = some [.string ByteArray.empty] := by kernel_rfl
theorem ag180 : aggO Try.prog 180 = some true := by kernel_rfl
theorem el180 : elO Try.prog 180 = none := by kernel_rfl
theorem st180 : strO Try.prog 180 = false := by kernel_rfl
theorem u8180 : u8O Try.prog 180 = false := by kernel_rfl
theorem em180 : emptyO Try.prog 180 = some (.sl 1 []) := by kernel_rfl
theorem fd180_0 : fldO Try.prog 180 0 = some (0, 9) := by kernel_rfl
theorem pl180 : plO Try.prog 180 = some [(0, 1)] := by kernel_rfl
attribute [go_sem] sz2 by2 ze2 ag2 el2 in2 st2 u82 em2 Try.underlying2 sz3 by3 ze3 ag3 el3 in3 st3 u83 em3 Try.underlying3 sz4 by4 ze4 ag4 el4 st4 u84 em4 Try.underlying4 sz5 by5 ze5 ag5 el5 in5 st5 u85 em5 Try.underlying5 sz9 by9 ze9 ag9 el9 st9 u89 em9 Try.underlying9 sz12 by12 ze12 ag12 el12 in12 st12 u812 em12 Try.underlying12 sz13 by13 ze13 ag13 el13 st13 u813 em13 fd13_0 fd13_1 pl13 Try.underlying13 sz21 by21 ze21 ag21 el21 in21 st21 u821 em21 Try.underlying21 sz22 by22 ze22 ag22 el22 st22 u822 em22 Try.underlying22 sz23 by23 ze23 ag23 el23 st23 u823 em23 fd23_0 fd23_1 pl23 Try.underlying23 sz24 by24 ze24 ag24 el24 st24 u824 em24 fd24_0 fd24_1 pl24 Try.underlying24 sz25 by25 ze25 ag25 el25 st25 u825 em25 fd25_0 fd25_1 pl25 Try.underlying25 sz26 by26 ze26 ag26 el26 st26 u826 em26 fd26_0 fd26_1 pl26 Try.underlying26 sz29 by29 ze29 ag29 el29 st29 u829 em29 fd29_0 fd29_1 pl29 Try.underlying29 sz30 by30 ze30 ag30 el30 st30 u830 em30 fd30_0 fd30_1 pl30 Try.underlying30 sz34 by34 ze34 ag34 el34 st34 u834 em34 Try.underlying34 sz35 by35 ze35 ag35 el35 st35 u835 em35 Try.underlying35 sz36 by36 ze36 ag36 el36 st36 u836 em36 fd36_0 fd36_1 pl36 Try.underlying36 sz37 by37 ze37 ag37 el37 st37 u837 em37 fd37_0 fd37_1 pl37 Try.underlying37 sz38 by38 ze38 ag38 el38 st38 u838 em38 fd38_0 fd38_1 pl38 Try.underlying38 sz39 by39 ze39 ag39 el39 st39 u839 em39 fd39_0 fd39_1 pl39 Try.underlying39 sz51 by51 ze51 ag51 el51 st51 u851 em51 Try.underlying51 sz68 by68 ze68 ag68 el68 st68 u868 em68 Try.underlying68 sz79 by79 ze79 ag79 el79 st79 u879 em79 fd79_0 fd79_1 fd79_2 fd79_3 fd79_4 fd79_5 pl79 Try.underlying79 sz80 by80 ze80 ag80 el80 st80 u880 em80 fd80_0 fd80_1 fd80_2 fd80_3 fd80_4 fd80_5 pl80 Try.underlying80 sz94 by94 ze94 ag94 el94 in94 st94 u894 em94 Try.underlying94 sz95 by95 ze95 ag95 el95 in95 st95 u895 em95 Try.underlying95 sz96 by96 ze96 ag96 el96 in96 st96 u896 em96 Try.underlying96 sz98 by98 ze98 ag98 el98 st98 u898 em98 Try.underlying98 sz121 by121 ze121 ag121 el121 mo121 zv4 st121 u8121 em121 Try.underlying121 sz127 by127 ze127 ag127 el127 st127 u8127 em127 fd127_0 fd127_1 pl127 Try.underlying127 sz128 by128 ze128 ag128 el128 st128 u8128 em128 fd128_0 fd128_1 pl128 Try.underlying128 sz143 by143 ze143 ag143 el143 st143 u8143 em143 Try.underlying143 sz146 by146 ze146 ag146 el146 st146 u8146 em146 Try.underlying146 sz163 by163 ze163 ag163 el163 st163 u8163 em163 Try.underlying163 sz174 by174 ze174 ag174 el174 st174 u8174 em174 Try.underlying174 sz179 by179 ze179 ag179 el179 st179 u8179 em179 fd179_0 pl179 Try.underlying179 sz180 by180 ze180 ag180 el180 st180 u8180 em180 fd180_0 pl180 Try.underlying180

end Go.Proofs.Ytlefdhkjbbdijaa
