import Derived.Test.YtneecniebhhhlaaH3
import Derived.Test.YtneecniebhhhlaaRows
namespace Go.Proofs.Ytneecniebhhhlaa
set_option linter.unusedSimpArgs false
set_option linter.unusedVariables false
open Go.Abs
theorem sz2 : szO Try.prog 2 = some 1 := by kernel_rfl
theorem by2 : byO Try.prog 2 = some 8 := by kernel_rfl
theorem ze2 : zeroO Try.prog 2 = some [.int .i64 0] := by kernel_rfl
theorem ag2 : aggO Try.prog 2 = some false := by kernel_rfl
theorem el2 : elO Try.prog 2 = none := by kernel_rfl
theorem in2 : intO Try.prog 2 = some .i64 := by kernel_rfl
theorem st2 : strO Try.prog 2 = false := by kernel_rfl
theorem u82 : u8O Try.prog 2 = false := by kernel_rfl
theorem em2 : emptyO Try.prog 2 = some (.ints .i64 []) := by kernel_rfl
theorem sz3 : szO Try.prog 3 = some 1 := by kernel_rfl
theorem by3 : byO Try.prog 3 = some 8 := by kernel_rfl
theorem ze3 : zeroO Try.prog 3 = some [.int .i64 0] := by kernel_rfl
theorem ag3 : aggO Try.prog 3 = some false := by kernel_rfl
theorem el3 : elO Try.prog 3 = none := by kernel_rfl
theorem in3 : intO Try.prog 3 = some .i64 := by kernel_rfl
theorem st3 : strO Try.prog 3 = false := by kernel_rfl
theorem u83 : u8O Try.prog 3 = false := by kernel_rfl
theorem em3 : emptyO Try.prog 3 = some (.ints .i64 []) := by kernel_rfl
theorem sz4 : szO Try.prog 4 = some 1 := by kernel_rfl
theorem by4 : byO Try.prog 4 = some 1 := by kernel_rfl
theorem ze4 : zeroO Try.prog 4 = some [.bool false] := by kernel_rfl
theorem ag4 : aggO Try.prog 4 = some false := by kernel_rfl
theorem el4 : elO Try.prog 4 = none := by kernel_rfl
theorem st4 : strO Try.prog 4 = false := by kernel_rfl
theorem u84 : u8O Try.prog 4 = false := by kernel_rfl
theorem em4 : emptyO Try.prog 4 = some (.bools []) := by kernel_rfl
theorem sz5 : szO Try.prog 5 = some 1 := by kernel_rfl
theorem by5 : byO Try.prog 5 = some 1 := by kernel_rfl
theorem ze5 : zeroO Try.prog 5 = some [.int .u8 0] := by kernel_rfl
theorem ag5 : aggO Try.prog 5 = some false := by kernel_rfl
theorem el5 : elO Try.prog 5 = none := by kernel_rfl
theorem in5 : intO Try.prog 5 = some .u8 := by kernel_rfl
theorem st5 : strO Try.prog 5 = false := by kernel_rfl
theorem u85 : u8O Try.prog 5 = false := by kernel_rfl
theorem em5 : emptyO Try.prog 5 = some (.ints .u8 []) := by kernel_rfl
theorem sz9 : szO Try.prog 9 = some 1 := by kernel_rfl
theorem by9 : byO Try.prog 9 = some 16 := by kernel_rfl
theorem ze9 : zeroO Try.prog 9 = some [.string ByteArray.empty] := by kernel_rfl
theorem ag9 : aggO Try.prog 9 = some false := by kernel_rfl
theorem el9 : elO Try.prog 9 = none := by kernel_rfl
theorem st9 : strO Try.prog 9 = true := by kernel_rfl
theorem u89 : u8O Try.prog 9 = false := by kernel_rfl
theorem em9 : emptyO Try.prog 9 = some (.sl 1 []) := by kernel_rfl
theorem sz12 : szO Try.prog 12 = some 1 := by kernel_rfl
theorem by12 : byO Try.prog 12 = some 8 := by kernel_rfl
theorem ze12 : zeroO Try.prog 12 = some [.int .u64 0] := by kernel_rfl
theorem ag12 : aggO Try.prog 12 = some false := by kernel_rfl
theorem el12 : elO Try.prog 12 = none := by kernel_rfl
theorem in12 : intO Try.prog 12 = some .u64 := by kernel_rfl
theorem st12 : strO Try.prog 12 = false := by kernel_rfl
theorem u812 : u8O Try.prog 12 = false := by kernel_rfl
theorem em12 : emptyO Try.prog 12 = some (.ints .u64 []) := by kernel_rfl
theorem sz13 : szO Try.prog 13 = some 2 := by kernel_rfl
theorem by13 : byO Try.prog 13 = some 24 := by kernel_rfl
theorem ze13 : zeroO Try.prog 13 = some [.string ByteArray.empty, .int .u64 0] := by kernel_rfl
theorem ag13 : aggO Try.prog 13 = some true := by kernel_rfl
theorem el13 : elO Try.prog 13 = none := by kernel_rfl
theorem st13 : strO Try.prog 13 = false := by kernel_rfl
theorem u813 : u8O Try.prog 13 = false := by kernel_rfl
theorem em13 : emptyO Try.prog 13 = some (.sl 2 []) := by kernel_rfl
theorem fd13_0 : fldO Try.prog 13 0 = some (0, 9) := by kernel_rfl
theorem fd13_1 : fldO Try.prog 13 1 = some (1, 12) := by kernel_rfl
theorem pl13 : plO Try.prog 13 = some [(0, 1), (1, 1)] := by kernel_rfl
theorem sz21 : szO Try.prog 21 = some 1 := by kernel_rfl
theorem by21 : byO Try.prog 21 = some 4 := by kernel_rfl
theorem ze21 : zeroO Try.prog 21 = some [.int .i32 0] := by kernel_rfl
theorem ag21 : aggO Try.prog 21 = some false := by kernel_rfl
theorem el21 : elO Try.prog 21 = none := by kernel_rfl
theorem in21 : intO Try.prog 21 = some .i32 := by kernel_rfl
theorem st21 : strO Try.prog 21 = false := by kernel_rfl
theorem u821 : u8O Try.prog 21 = false := by kernel_rfl
theorem em21 : emptyO Try.prog 21 = some (.ints .i32 []) := by kernel_rfl
theorem sz22 : szO Try.prog 22 = some 1 := by kernel_rfl
theorem by22 : byO Try.prog 22 = some 24 := by kernel_rfl
theorem ze22 : zeroO Try.prog 22 = some [.slice none 0 0] := by kernel_rfl
theorem ag22 : aggO Try.prog 22 = some false := by kernel_rfl
theorem el22 : elO Try.prog 22 = some 91 := by kernel_rfl
theorem st22 : strO Try.prog 22 = false := by kernel_rfl
theorem u822 : u8O Try.prog 22 = false := by kernel_rfl
theorem em22 : emptyO Try.prog 22 = some (.sl 1 []) := by kernel_rfl
theorem sz23 : szO Try.prog 23 = some 2 := by kernel_rfl
theorem by23 : byO Try.prog 23 = some 32 := by kernel_rfl
theorem ze23 : zeroO Try.prog 23 = some [.bool false, .slice none 0 0] := by kernel_rfl
theorem ag23 : aggO Try.prog 23 = some true := by kernel_rfl
theorem el23 : elO Try.prog 23 = none := by kernel_rfl
theorem st23 : strO Try.prog 23 = false := by kernel_rfl
theorem u823 : u8O Try.prog 23 = false := by kernel_rfl
theorem em23 : emptyO Try.prog 23 = some (.sl 2 []) := by kernel_rfl
theorem fd23_0 : fldO Try.prog 23 0 = some (0, 4) := by kernel_rfl
theorem fd23_1 : fldO Try.prog 23 1 = some (1, 22) := by kernel_rfl
theorem pl23 : plO Try.prog 23 = some [(0, 1), (1, 1)] := by kernel_rfl
theorem sz24 : szO Try.prog 24 = some 2 := by kernel_rfl
theorem by24 : byO Try.prog 24 = some 32 := by kernel_rfl
theorem ze24 : zeroO Try.prog 24 = some [.bool false, .slice none 0 0] := by kernel_rfl
theorem ag24 : aggO Try.prog 24 = some true := by kernel_rfl
theorem el24 : elO Try.prog 24 = none := by kernel_rfl
theorem st24 : strO Try.prog 24 = false := by kernel_rfl
theorem u824 : u8O Try.prog 24 = false := by kernel_rfl
theorem em24 : emptyO Try.prog 24 = some (.sl 2 []) := by kernel_rfl
theorem fd24_0 : fldO Try.prog 24 0 = some (0, 4) := by kernel_rfl
theorem fd24_1 : fldO Try.prog 24 1 = some (1, 22) := by kernel_rfl
theorem pl24 : plO Try.prog 24 = some [(0, 1), (1, 1)] := by kernel_rfl
theorem sz25 : szO Try.prog 25 = some 9 := by kernel_rfl
theorem by25 : byO Try.prog 25 = some 104 := by kernel_rfl
theorem ze25 : zeroO Try.prog 25 = some [.bool false, .slice none 0 0, .bool false, .slice none 0 0, .bool false, .slice none 0 0, .bool false, .bool false, .bool false] := by kernel_rfl
theorem ag25 : aggO Try.prog 25 = some true := by kernel_rfl
theorem el25 : elO Try.prog 25 = none := by kernel_rfl
theorem st25 : strO Try.prog 25 = false := by kernel_rfl
theorem u825 : u8O Try.prog 25 = false := by kernel_rfl
theorem em25 : emptyO Try.prog 25 = some (.sl 9 []) := by kernel_rfl
theorem fd25_0 : fldO Try.prog 25 0 = some (0, 24) := by kernel_rfl
theorem fd25_1 : fldO Try.prog 25 1 = some (2, 24) := by kernel_rfl
theorem fd25_2 : fldO Try.prog 25 2 = some (4, 24) := by kernel_rfl
theorem fd25_3 : fldO Try.prog 25 3 = some (6, 4) := by kernel_rfl
theorem fd25_4 : fldO Try.prog 25 4 = some (7, 4) := by kernel_rfl
theorem fd25_5 : fldO Try.prog 25 5 = some (8, 4) := by kernel_rfl
theorem pl25 : plO Try.prog 25 = some [(0, 2), (2, 2), (4, 2), (6, 1), (7, 1), (8, 1)] := by kernel_rfl
theorem sz26 : szO Try.prog 26 = some 9 := by kernel_rfl
theorem by26 : byO Try.prog 26 = some 104 := by kernel_rfl
theorem ze26 : zeroO Try.prog 26 = some [.bool false, .slice none 0 0, .bool false, .slice none 0 0, .bool false, .slice none 0 0, .bool false, .bool false, .bool false] := by kernel_rfl
theorem ag26 : aggO Try.prog 26 = some true := by kernel_rfl
theorem el26 : elO Try.prog 26 = none := by kernel_rfl
theorem st26 : strO Try.prog 26 = false := by kernel_rfl
theorem u826 : u8O Try.prog 26 = false := by kernel_rfl
theorem em26 : emptyO Try.prog 26 = some (.sl 9 []) := by kernel_rfl
theorem fd26_0 : fldO Try.prog 26 0 = some (0, 24) := by kernel_rfl
theorem fd26_1 : fldO Try.prog 26 1 = some (2, 24) := by kernel_rfl
theorem fd26_2 : fldO Try.prog 26 2 = some (4, 24) := by kernel_rfl
theorem fd26_3 : fldO Try.prog 26 3 = some (6, 4) := by kernel_rfl
theorem fd26_4 : fldO Try.prog 26 4 = some (7, 4) := by kernel_rfl
theorem fd26_5 : fldO Try.prog 26 5 = some (8, 4) := by kernel_rfl
theorem pl26 : plO Try.prog 26 = some [(0, 2), (2, 2), (4, 2), (6, 1), (7, 1), (8, 1)] := by kernel_rfl
theorem sz27 : szO Try.prog 27 = some 2 := by kernel_rfl
theorem by27 : byO Try.prog 27 = some 16 := by kernel_rfl
theorem ze27 : zeroO Try.prog 27 = some [.int .i64 0, .int .i64 0] := by kernel_rfl
theorem ag27 : aggO Try.prog 27 = some true := by kernel_rfl
theorem el27 : elO Try.prog 27 = none := by kernel_rfl
theorem st27 : strO Try.prog 27 = false := by kernel_rfl
theorem u827 : u8O Try.prog 27 = false := by kernel_rfl
theorem em27 : emptyO Try.prog 27 = some (.sl 2 []) := by kernel_rfl
theorem fd27_0 : fldO Try.prog 27 0 = some (0, 3) := by kernel_rfl
theorem fd27_1 : fldO Try.prog 27 1 = some (1, 3) := by kernel_rfl
theorem pl27 : plO Try.prog 27 = some [(0, 1), (1, 1)] := by kernel_rfl
theorem sz28 : szO Try.prog 28 = some 2 := by kernel_rfl
theorem by28 : byO Try.prog 28 = some 16 := by kernel_rfl
theorem ze28 : zeroO Try.prog 28 = some [.int .i64 0, .int .i64 0] := by kernel_rfl
theorem ag28 : aggO Try.prog 28 = some true := by kernel_rfl
theorem el28 : elO Try.prog 28 = none := by kernel_rfl
theorem st28 : strO Try.prog 28 = false := by kernel_rfl
theorem u828 : u8O Try.prog 28 = false := by kernel_rfl
theorem em28 : emptyO Try.prog 28 = some (.sl 2 []) := by kernel_rfl
theorem fd28_0 : fldO Try.prog 28 0 = some (0, 3) := by kernel_rfl
theorem fd28_1 : fldO Try.prog 28 1 = some (1, 3) := by kernel_rfl
theorem pl28 : plO Try.prog 28 = some [(0, 1), (1, 1)] := by kernel_rfl
theorem sz39 : szO Try.prog 39 = some 1 := by kernel_rfl
theorem by39 : byO Try.prog 39 = some 24 := by kernel_rfl
theorem ze39 : zeroO Try.prog 39 = some [.slice none 0 0] := by kernel_rfl
theorem ag39 : aggO Try.prog 39 = some false := by kernel_rfl
theorem el39 : elO Try.prog 39 = some 3 := by kernel_rfl
theorem st39 : strO Try.prog 39 = false := by kernel_rfl
theorem u839 : u8O Try.prog 39 = false := by kernel_rfl
theorem em39 : emptyO Try.prog 39 = some (.sl 1 []) := by kernel_rfl
theorem sz59 : szO Try.prog 59 = some 1 := by kernel_rfl
theorem by59 : byO Try.prog 59 = some 24 := by kernel_rfl
theorem ze59 : zeroO Try.prog 59 = some [.slice none 0 0] := by kernel_rfl
theorem ag59 : aggO Try.prog 59 = some false := by kernel_rfl
theorem el59 : elO Try.prog 59 = some 3 := by kernel_rfl
theorem st59 : strO Try.prog 59 = false := by kernel_rfl
theorem u859 : u8O Try.prog 59 = false := by kernel_rfl
theorem em59 : emptyO Try.prog 59 = some (.sl 1 []) := by kernel_rfl
theorem sz62 : szO Try.prog 62 = some 2 := by kernel_rfl
theorem by62 : byO Try.prog 62 = some 32 := by kernel_rfl
theorem ze62 : zeroO Try.prog 62 = some [.bool false, .slice none 0 0] := by kernel_rfl
theorem ag62 : aggO Try.prog 62 = some true := by kernel_rfl
theorem el62 : elO Try.prog 62 = none := by kernel_rfl
theorem st62 : strO Try.prog 62 = false := by kernel_rfl
theorem u862 : u8O Try.prog 62 = false := by kernel_rfl
theorem em62 : emptyO Try.prog 62 = some (.sl 2 []) := by kernel_rfl
theorem fd62_0 : fldO Try.prog 62 0 = some (0, 4) := by kernel_rfl
theorem fd62_1 : fldO Try.prog 62 1 = some (1, 59) := by kernel_rfl
theorem pl62 : plO Try.prog 62 = some [(0, 1), (1, 1)] := by kernel_rfl
theorem sz63 : szO Try.prog 63 = some 2 := by kernel_rfl
theorem by63 : byO Try.prog 63 = some 32 := by kernel_rfl
theorem ze63 : zeroO Try.prog 63 = some [.bool false, .slice none 0 0] := by kernel_rfl
theorem ag63 : aggO Try.prog 63 = some true := by kernel_rfl
theorem el63 : elO Try.prog 63 = none := by kernel_rfl
theorem st63 : strO Try.prog 63 = false := by kernel_rfl
theorem u863 : u8O Try.prog 63 = false := by kernel_rfl
theorem em63 : emptyO Try.prog 63 = some (.sl 2 []) := by kernel_rfl
theorem fd63_0 : fldO Try.prog 63 0 = some (0, 4) := by kernel_rfl
theorem fd63_1 : fldO Try.prog 63 1 = some (1, 59) := by kernel_rfl
theorem pl63 : plO Try.prog 63 = some [(0, 1), (1, 1)] := by kernel_rfl
theorem sz81 : szO Try.prog 81 = some 1 := by kernel_rfl
theorem by81 : byO Try.prog 81 = some 24 := by kernel_rfl
theorem ze81 : zeroO Try.prog 81 = some [.slice none 0 0] := by kernel_rfl
theorem ag81 : aggO Try.prog 81 = some false := by kernel_rfl
theorem el81 : elO Try.prog 81 = some 4 := by kernel_rfl
theorem st81 : strO Try.prog 81 = false := by kernel_rfl
theorem u881 : u8O Try.prog 81 = false := by kernel_rfl
theorem em81 : emptyO Try.prog 81 = some (.sl 1 []) := by kernel_rfl
theorem sz91 : szO Try.prog 91 = some 1 := by kernel_rfl
theorem by91 : byO Try.prog 91 = some 4 := by kernel_rfl
theorem ze91 : zeroO Try.prog 91 = some [.int .u32 0] := by kernel_rfl
theorem ag91 : aggO Try.prog 91 = some false := by kernel_rfl
theorem el91 : elO Try.prog 91 = none := by kernel_rfl
theorem in91 : intO Try.prog 91 = some .u32 := by kernel_rfl
theorem st91 : strO Try.prog 91 = false := by kernel_rfl
theorem u891 : u8O Try.prog 91 = false := by kernel_rfl
theorem em91 : emptyO Try.prog 91 = some (.ints .u32 []) := by kernel_rfl
theorem sz95 : szO Try.prog 95 = some 6 := by kernel_rfl
theorem by95 : byO Try.prog 95 = some 96 := by kernel_rfl
theorem ze95 : zeroO Try.prog 95 = some [.bool false, .slice none 0 0, .bool false, .slice none 0 0, .bool false, .slice none 0 0] := by kernel_rfl
theorem ag95 : aggO Try.prog 95 = some true := by kernel_rfl
theorem el95 : elO Try.prog 95 = none := by kernel_rfl
theorem st95 : strO Try.prog 95 = false := by kernel_rfl
theorem u895 : u8O Try.prog 95 = false := by kernel_rfl
theorem em95 : emptyO Try.prog 95 = some (.sl 6 []) := by kernel_rfl
theorem fd95_0 : fldO Try.prog 95 0 = some (0, 24) := by kernel_rfl
theorem fd95_1 : fldO Try.prog 95 1 = some (2, 24) := by kernel_rfl
theorem fd95_2 : fldO Try.prog 95 2 = some (4, 24) := by kernel_rfl
theorem pl95 : plO Try.prog 95 = some [(0, 2), (2, 2), (4, 2)] := by kernel_rfl
theorem sz96 : szO Try.prog 96 = some 6 := by kernel_rfl
theorem by96 : byO Try.prog 96 = some 96 := by kernel_rfl
theorem ze96 : zeroO Try.prog 96 = some [.bool false, .slice none 0 0, .bool false, .slice none 0 0, .bool false, .slice none 0 0] := by kernel_rfl
theorem ag96 : aggO Try.prog 96 = some true := by kernel_rfl
theorem el96 : elO Try.prog 96 = none := by kernel_rfl
theorem st96 : strO Try.prog 96 = false := by kernel_rfl
theorem u896 : u8O Try.prog 96 = false := by kernel_rfl
theorem em96 : emptyO Try.prog 96 = some (.sl 6 []) := by kernel_rfl
theorem fd96_0 : fldO Try.prog 96 0 = some (0, 24) := by kernel_rfl
theorem fd96_1 : fldO Try.prog 96 1 = some (2, 24) := by kernel_rfl
theorem fd96_2 : fldO Try.prog 96 2 = some (4, 24) := by kernel_rfl
theorem pl96 : plO Try.prog 96 = some [(0, 2), (2, 2), (4, 2)] := by kernel_rfl
theorem sz102 : szO Try.prog 102 = some 8 := by kernel_rfl
theorem by102 : byO Try.prog 102 = some 128 := by kernel_rfl
theorem ze102 : zeroO Try.prog 102 = some [.bool false, .slice none 0 0, .bool false, .slice none 0 0, .bool false, .slice none 0 0, .bool false, .slice none 0 0] := by kernel_rfl
theorem ag102 : aggO Try.prog 102 = some true := by kernel_rfl
theorem el102 : elO Try.prog 102 = none := by kernel_rfl
theorem st102 : strO Try.prog 102 = false := by kernel_rfl
theorem u8102 : u8O Try.prog 102 = false := by kernel_rfl
theorem em102 : emptyO Try.prog 102 = some (.sl 8 []) := by kernel_rfl
theorem fd102_0 : fldO Try.prog 102 0 = some (0, 63) := by kernel_rfl
theorem fd102_1 : fldO Try.prog 102 1 = some (2, 63) := by kernel_rfl
theorem fd102_2 : fldO Try.prog 102 2 = some (4, 63) := by kernel_rfl
theorem fd102_3 : fldO Try.prog 102 3 = some (6, 63) := by kernel_rfl
theorem pl102 : plO Try.prog 102 = some [(0, 2), (2, 2), (4, 2), (6, 2)] := by kernel_rfl
theorem sz103 : szO Try.prog 103 = some 8 := by kernel_rfl
theorem by103 : byO Try.prog 103 = some 128 := by kernel_rfl
theorem ze103 : zeroO Try.prog 103 = some [.bool false, .slice none 0 0, .bool false, .slice none 0 0, .bool false, .slice none 0 0, .bool false, .slice none 0 0] := by kernel_rfl
theorem ag103 : aggO Try.prog 103 = some true := by kernel_rfl
theorem el103 : elO Try.prog 103 = none := by kernel_rfl
theorem st103 : strO Try.prog 103 = false := by kernel_rfl
theorem u8103 : u8O Try.prog 103 = false := by kernel_rfl
theorem em103 : emptyO Try.prog 103 = some (.sl 8 []) := by kernel_rfl
theorem fd103_0 : fldO Try.prog 103 0 = some (0, 63) := by kernel_rfl
theorem fd103_1 : fldO Try.prog 103 1 = some (2, 63) := by kernel_rfl
theorem fd103_2 : fldO Try.prog 103 2 = some (4, 63) := by kernel_rfl
theorem fd103_3 : fldO Try.prog 103 3 = some (6, 63) := by kernel_rfl
theorem pl103 : plO Try.prog 103 = some [(0, 2), (2, 2), (4, 2), (6, 2)] := by kernel_rfl
theorem sz115 : szO Try.prog 115 = some 1 := by kernel_rfl
theorem by115 : byO Try.prog 115 = some 24 := by kernel_rfl
theorem ze115 : zeroO Try.prog 115 = some [.slice none 0 0] := by kernel_rfl
theorem ag115 : aggO Try.prog 115 = some false := by kernel_rfl
theorem el115 : elO Try.prog 115 = some 24 := by kernel_rfl
theorem st115 : strO Try.prog 115 = false := by kernel_rfl
theorem u8115 : u8O Try.prog 115 = false := by kernel_rfl
theorem em115 : emptyO Try.prog 115 = some (.sl 1 []) := by kernel_rfl
theorem sz124 : szO Try.prog 124 = some 1 := by kernel_rfl
theorem by124 : byO Try.prog 124 = some 8 := by kernel_rfl
theorem ze124 : zeroO Try.prog 124 = some [.int .u64 0] := by kernel_rfl
theorem ag124 : aggO Try.prog 124 = some false := by kernel_rfl
theorem el124 : elO Try.prog 124 = none := by kernel_rfl
theorem in124 : intO Try.prog 124 = some .u64 := by kernel_rfl
theorem st124 : strO Try.prog 124 = false := by kernel_rfl
theorem u8124 : u8O Try.prog 124 = false := by kernel_rfl
theorem em124 : emptyO Try.prog 124 = some (.ints .u64 []) := by kernel_rfl
theorem sz125 : szO Try.prog 125 = some 1 := by kernel_rfl
theorem by125 : byO Try.prog 125 = some 8 := by kernel_rfl
theorem ze125 : zeroO Try.prog 125 = some [.int .u64 0] := by kernel_rfl
theorem ag125 : aggO Try.prog 125 = some false := by kernel_rfl
theorem el125 : elO Try.prog 125 = none := by kernel_rfl
theorem in125 : intO Try.prog 125 = some .u64 := by kernel_rfl
theorem st125 : strO Try.prog 125 = false := by kernel_rfl
theorem u8125 : u8O Try.prog 125 = false := by kernel_rfl
theorem em125 : emptyO Try.prog 125 = some (.ints .u64 []) := by kernel_rfl
theorem sz128 : szO Try.prog 128 = some 1 := by kernel_rfl
theorem by128 : byO Try.prog 128 = some 8 := by kernel_rfl
theorem ze128 : zeroO Try.prog 128 = some [.map none] := by kernel_rfl
theorem ag128 : aggO Try.prog 128 = some false := by kernel_rfl
theorem el128 : elO Try.prog 128 = none := by kernel_rfl
theorem mo128 : mapO Try.prog 128 = some (3, 4) := by kernel_rfl
theorem zv4 : zvO Try.prog 4 = some (.bool false) := by kernel_rfl
theorem st128 : strO Try.prog 128 = false := by kernel_rfl
theorem u8128 : u8O Try.prog 128 = false := by kernel_rfl
theorem em128 : emptyO Try.prog 128 = some (.sl 1 []) := by kernel_rfl
theorem sz145 : szO Try.prog 145 = some 1 := by kernel_rfl
theorem by145 : byO Try.prog 145 = some 24 := by kernel_rfl
theorem ze145 : zeroO Try.prog 145 = some [.slice none 0 0] := by kernel_rfl
theorem ag145 : aggO Try.prog 145 = some false := by kernel_rfl
theorem el145 : elO Try.prog 145 = some 5 := by kernel_rfl
theorem st145 : strO Try.prog 145 = false := by kernel_rfl
theorem u8145 : u8O Try.prog 145 = true := by kernel_rfl
theorem em145 : emptyO Try.prog 145 = some (.sl 1 []) := by kernel_rfl
theorem sz159 : szO Try.prog 159 = some 6 := by kernel_rfl
theorem by159 : byO Try.prog 159 = some 96 := by kernel_rfl
theorem ze159 : zeroO Try.prog 159 = some [.bool false, .slice none 0 0, .bool false, .slice none 0 0, .bool false, .slice none 0 0] := by kernel_rfl
theorem ag159 : aggO Try.prog 159 = some true := by kernel_rfl
theorem el159 : elO Try.prog 159 = none := by kernel_rfl
theorem st159 : strO Try.prog 159 = false := by kernel_rfl
theorem u8159 : u8O Try.prog 159 = false := by kernel_rfl
theorem em159 : emptyO Try.prog 159 = some (.sl 6 []) := by kernel_rfl
theorem fd159_0 : fldO Try.prog 159 0 = some (0, 24) := by kernel_rfl
theorem fd159_1 : fldO Try.prog 159 1 = some (2, 24) := by kernel_rfl
theorem fd159_2 : fldO Try.prog 159 2 = some (4, 24) := by kernel_rfl
theorem pl159 : plO Try.prog 159 = some [(0, 2), (2, 2), (4, 2)] := by kernel_rfl
theorem sz160 : szO Try.prog 160 = some 6 := by kernel_rfl
theorem by160 : byO Try.prog 160 = some 96 := by kernel_rfl
theorem ze160 : zeroO Try.prog 160 = some [.bool false, .slice none 0 0, .bool false, .slice none 0 0, .bool false, .slice none 0 0] := by kernel_rfl
theorem ag160 : aggO Try.prog 160 = some true := by kernel_rfl
theorem el160 : elO Try.prog 160 = none := by kernel_rfl
theorem st160 : strO Try.prog 160 = false := by kernel_rfl
theorem u8160 : u8O Try.prog 160 = false := by kernel_rfl
theorem em160 : emptyO Try.prog 160 = some (.sl 6 []) := by kernel_rfl
theorem fd160_0 : fldO Try.prog 160 0 = some (0, 24) := by kernel_rfl
theorem fd160_1 : fldO Try.prog 160 1 = some (2, 24) := by kernel_rfl
theorem fd160_2 : fldO Try.prog 160 2 = some (4, 24) := by kernel_rfl
theorem pl160 : plO Try.prog 160 = some [(0, 2), (2, 2), (4, 2)] := by kernel_rfl
theorem sz171 : szO Try.prog 171 = some 1 := by kernel_rfl
theorem by171 : byO Try.prog 171 = some 24 := by kernel_rfl
theorem ze171 : zeroO Try.prog 171 = some [.slice none 0 0] := by kernel_rfl
theorem ag171 : aggO Try.prog 171 = some false := by kernel_rfl
theorem el171 : elO Try.prog 171 = some 39 := by kernel_rfl
theorem st171 : strO Try.prog 171 = false := by kernel_rfl
theorem u8171 : u8O Try.prog 171 = false := by kernel_rfl
theorem em171 : emptyO Try.prog 171 = some (.sl 1 []) := by kernel_rfl
theorem sz188 : szO Try.prog 188 = some 1 := by kernel_rfl
theorem by188 : byO Try.prog 188 = some 24 := by kernel_rfl
theorem ze188 : zeroO Try.prog 188 = some [.slice none 0 0] := by kernel_rfl
theorem ag188 : aggO Try.prog 188 = some false := by kernel_rfl
theorem el188 : elO Try.prog 188 = some 96 := by kernel_rfl
theorem st188 : strO Try.prog 188 = false := by kernel_rfl
theorem u8188 : u8O Try.prog 188 = false := by kernel_rfl
theorem em188 : emptyO Try.prog 188 = some (.sl 1 []) := by kernel_rfl
theorem sz194 : szO Try.prog 194 = some 1 := by kernel_rfl
theorem by194 : byO Try.prog 194 = some 8 := by kernel_rfl
theorem ze194 : zeroO Try.prog 194 = some [.pointer none] := by kernel_rfl
theorem ag194 : aggO Try.prog 194 = some false := by kernel_rfl
theorem el194 : elO Try.prog 194 = none := by kernel_rfl
theorem st194 : strO Try.prog 194 = false := by kernel_rfl
theorem u8194 : u8O Try.prog 194 = false := by kernel_rfl
theorem em194 : emptyO Try.prog 194 = some (.sl 1 []) := by kernel_rfl
theorem sz205 : szO Try.prog 205 = some 1 := by kernel_rfl
theorem by205 : byO Try.prog 205 = some 8 := by kernel_rfl
theorem ze205 : zeroO Try.prog 205 = some [.pointer none] := by kernel_rfl
theorem ag205 : aggO Try.prog 205 = some false := by kernel_rfl
theorem el205 : elO Try.prog 205 = none := by kernel_rfl
theorem st205 : strO Try.prog 205 = false := by kernel_rfl
theorem u8205 : u8O Try.prog 205 = false := by kernel_rfl
theorem em205 : emptyO Try.prog 205 = some (.sl 1 []) := by kernel_rfl
theorem sz210 : szO Try.prog 210 = some 1 := by kernel_rfl
theorem by210 : byO Try.prog 210 = some 16 := by kernel_rfl
theorem ze210 : zeroO Try.prog 210 = some [.string ByteArray.empty] := by kernel_rfl
theorem ag210 : aggO Try.prog 210 = some true := by kernel_rfl
theorem el210 : elO Try.prog 210 = none := by kernel_rfl
theorem st210 : strO Try.prog 210 = false := by kernel_rfl
theorem u8210 : u8O Try.prog 210 = false := by kernel_rfl
theorem em210 : emptyO Try.prog 210 = some (.sl 1 []) := by kernel_rfl
theorem fd210_0 : fldO Try.prog 210 0 = some (0, 9) := by kernel_rfl
theorem pl210 : plO Try.prog 210 = some [(0, 1)] := by kernel_rfl
theorem sz211 : szO Try.prog 211 = some 1 := by kernel_rfl
theorem by211 : byO Try.prog 211 = some 16 := by kernel_rfl
theorem ze211 : zeroO Try.prog 211 = some [.string ByteArray.empty] := by kernel_rfl
theorem ag211 : aggO Try.prog 211 = some true := by kernel_rfl
theorem el211 : elO Try.prog 211 = none := by kernel_rfl
theorem st211 : strO Try.prog 211 = false := by kernel_rfl
theorem u8211 : u8O Try.prog 211 = false := by kernel_rfl
theorem em211 : emptyO Try.prog 211 = some (.sl 1 []) := by kernel_rfl
theorem fd211_0 : fldO Try.prog 211 0 = some (0, 9) := by kernel_rfl
theorem pl211 : plO Try.prog 211 = some [(0, 1)] := by kernel_rfl
attribute [go_sem] sz2 by2 ze2 ag2 el2 in2 st2 u82 em2 Try.underlying2 sz3 by3 ze3 ag3 el3 in3 st3 u83 em3 Try.underlying3 sz4 by4 ze4 ag4 el4 st4 u84 em4 Try.underlying4 sz5 by5 ze5 ag5 el5 in5 st5 u85 em5 Try.underlying5 sz9 by9 ze9 ag9 el9 st9 u89 em9 Try.underlying9 sz12 by12 ze12 ag12 el12 in12 st12 u812 em12 Try.underlying12 sz13 by13 ze13 ag13 el13 st13 u813 em13 fd13_0 fd13_1 pl13 Try.underlying13 sz21 by21 ze21 ag21 el21 in21 st21 u821 em21 Try.underlying21 sz22 by22 ze22 ag22 el22 st22 u822 em22 Try.underlying22 sz23 by23 ze23 ag23 el23 st23 u823 em23 fd23_0 fd23_1 pl23 Try.underlying23 sz24 by24 ze24 ag24 el24 st24 u824 em24 fd24_0 fd24_1 pl24 Try.underlying24 sz25 by25 ze25 ag25 el25 st25 u825 em25 fd25_0 fd25_1 fd25_2 fd25_3 fd25_4 fd25_5 pl25 Try.underlying25 sz26 by26 ze26 ag26 el26 st26 u826 em26 fd26_0 fd26_1 fd26_2 fd26_3 fd26_4 fd26_5 pl26 Try.underlying26 sz27 by27 ze27 ag27 el27 st27 u827 em27 fd27_0 fd27_1 pl27 Try.underlying27 sz28 by28 ze28 ag28 el28 st28 u828 em28 fd28_0 fd28_1 pl28 Try.underlying28 sz39 by39 ze39 ag39 el39 st39 u839 em39 Try.underlying39 sz59 by59 ze59 ag59 el59 st59 u859 em59 Try.underlying59 sz62 by62 ze62 ag62 el62 st62 u862 em62 fd62_0 fd62_1 pl62 Try.underlying62 sz63 by63 ze63 ag63 el63 st63 u863 em63 fd63_0 fd63_1 pl63 Try.underlying63 sz81 by81 ze81 ag81 el81 st81 u881 em81 Try.underlying81 sz91 by91 ze91 ag91 el91 in91 st91 u891 em91 Try.underlying91 sz95 by95 ze95 ag95 el95 st95 u895 em95 fd95_0 fd95_1 fd95_2 pl95 Try.underlying95 sz96 by96 ze96 ag96 el96 st96 u896 em96 fd96_0 fd96_1 fd96_2 pl96 Try.underlying96 sz102 by102 ze102 ag102 el102 st102 u8102 em102 fd102_0 fd102_1 fd102_2 fd102_3 pl102 Try.underlying102 sz103 by103 ze103 ag103 el103 st103 u8103 em103 fd103_0 fd103_1 fd103_2 fd103_3 pl103 Try.underlying103 sz115 by115 ze115 ag115 el115 st115 u8115 em115 Try.underlying115 sz124 by124 ze124 ag124 el124 in124 st124 u8124 em124 Try.underlying124 sz125 by125 ze125 ag125 el125 in125 st125 u8125 em125 Try.underlying125 sz128 by128 ze128 ag128 el128 mo128 zv4 st128 u8128 em128 Try.underlying128 sz145 by145 ze145 ag145 el145 st145 u8145 em145 Try.underlying145 sz159 by159 ze159 ag159 el159 st159 u8159 em159 fd159_0 fd159_1 fd159_2 pl159 Try.underlying159 sz160 by160 ze160 ag160 el160 st160 u8160 em160 fd160_0 fd160_1 fd160_2 pl160 Try.underlying160 sz171 by171 ze171 ag171 el171 st171 u8171 em171 Try.underlying171 sz188 by188 ze188 ag188 el188 st188 u8188 em188 Try.underlying188 sz194 by194 ze194 ag194 el194 st194 u8194 em194 Try.underlying194 sz205 by205 ze205 ag205 el205 st205 u8205 em205 Try.underlying205 sz210 by210 ze210 ag210 el210 st210 u8210 em210 fd210_0 pl210 Try.underlying210 sz211 by211 ze211 ag211 el211 st211 u8211 em211 fd211_0 pl211 Try.underlying211

end Go.Proofs.Ytneecniebhhhlaa
