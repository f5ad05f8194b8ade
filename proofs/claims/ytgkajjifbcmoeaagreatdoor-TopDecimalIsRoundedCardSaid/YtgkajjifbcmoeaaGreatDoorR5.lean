import Derived.Test.YtgkajjifbcmoeaaGreatDoorR3
import Derived.Test.YtgkajjifbcmoeaaGreatDoorRows
namespace Go.Proofs.YtgkajjifbcmoeaaGreatDoor
set_option linter.unusedSimpArgs false
set_option linter.unusedVariables false
open Go.Abs
theorem sz2 : szO Tryz.prog 2 = some 1:=by kernel_rfl
theorem by2 : byO Tryz.prog 2 = some 8:=by kernel_rfl
theorem ze2 : zeroO Tryz.prog 2 = some [.int .i64 0]:=by kernel_rfl
theorem ag2 : aggO Tryz.prog 2 = some false:=by kernel_rfl
theorem el2 : elO Tryz.prog 2 = none:=by kernel_rfl
theorem in2 : intO Tryz.prog 2 = some .i64:=by kernel_rfl
theorem st2 : strO Tryz.prog 2 = false:=by kernel_rfl
theorem u82 : u8O Tryz.prog 2 = false:=by kernel_rfl
theorem em2 : emptyO Tryz.prog 2 = some (.ints .i64 []):=by kernel_rfl
theorem sz3 : szO Tryz.prog 3 = some 1:=by kernel_rfl
theorem by3 : byO Tryz.prog 3 = some 8:=by kernel_rfl
theorem ze3 : zeroO Tryz.prog 3 = some [.int .i64 0]:=by kernel_rfl
theorem ag3 : aggO Tryz.prog 3 = some false:=by kernel_rfl
theorem el3 : elO Tryz.prog 3 = none:=by kernel_rfl
theorem in3 : intO Tryz.prog 3 = some .i64:=by kernel_rfl
theorem st3 : strO Tryz.prog 3 = false:=by kernel_rfl
theorem u83 : u8O Tryz.prog 3 = false:=by kernel_rfl
theorem em3 : emptyO Tryz.prog 3 = some (.ints .i64 []):=by kernel_rfl
theorem sz4 : szO Tryz.prog 4 = some 1:=by kernel_rfl
theorem by4 : byO Tryz.prog 4 = some 1:=by kernel_rfl
theorem ze4 : zeroO Tryz.prog 4 = some [.bool false]:=by kernel_rfl
theorem ag4 : aggO Tryz.prog 4 = some false:=by kernel_rfl
theorem el4 : elO Tryz.prog 4 = none:=by kernel_rfl
theorem st4 : strO Tryz.prog 4 = false:=by kernel_rfl
theorem u84 : u8O Tryz.prog 4 = false:=by kernel_rfl
theorem em4 : emptyO Tryz.prog 4 = some (.bools []):=by kernel_rfl
theorem sz5 : szO Tryz.prog 5 = some 1:=by kernel_rfl
theorem by5 : byO Tryz.prog 5 = some 1:=by kernel_rfl
theorem ze5 : zeroO Tryz.prog 5 = some [.int .u8 0]:=by kernel_rfl
theorem ag5 : aggO Tryz.prog 5 = some false:=by kernel_rfl
theorem el5 : elO Tryz.prog 5 = none:=by kernel_rfl
theorem in5 : intO Tryz.prog 5 = some .u8:=by kernel_rfl
theorem st5 : strO Tryz.prog 5 = false:=by kernel_rfl
theorem u85 : u8O Tryz.prog 5 = false:=by kernel_rfl
theorem em5 : emptyO Tryz.prog 5 = some (.ints .u8 []):=by kernel_rfl
theorem sz9 : szO Tryz.prog 9 = some 1:=by kernel_rfl
theorem by9 : byO Tryz.prog 9 = some 16:=by kernel_rfl
theorem ze9 : zeroO Tryz.prog 9 = some [.string ByteArray.empty]:=by kernel_rfl
theorem ag9 : aggO Tryz.prog 9 = some false:=by kernel_rfl
theorem el9 : elO Tryz.prog 9 = none:=by kernel_rfl
theorem st9 : strO Tryz.prog 9 = true:=by kernel_rfl
theorem u89 : u8O Tryz.prog 9 = false:=by kernel_rfl
theorem em9 : emptyO Tryz.prog 9 = some (.sl 1 []):=by kernel_rfl
theorem sz12 : szO Tryz.prog 12 = some 1:=by kernel_rfl
theorem by12 : byO Tryz.prog 12 = some 8:=by kernel_rfl
theorem ze12 : zeroO Tryz.prog 12 = some [.int .u64 0]:=by kernel_rfl
theorem ag12 : aggO Tryz.prog 12 = some false:=by kernel_rfl
theorem el12 : elO Tryz.prog 12 = none:=by kernel_rfl
theorem in12 : intO Tryz.prog 12 = some .u64:=by kernel_rfl
theorem st12 : strO Tryz.prog 12 = false:=by kernel_rfl
theorem u812 : u8O Tryz.prog 12 = false:=by kernel_rfl
theorem em12 : emptyO Tryz.prog 12 = some (.ints .u64 []):=by kernel_rfl
theorem sz13 : szO Tryz.prog 13 = some 2:=by kernel_rfl
theorem by13 : byO Tryz.prog 13 = some 24:=by kernel_rfl
theorem ze13 : zeroO Tryz.prog 13 = some [.string ByteArray.empty,.int .u64 0]:=by kernel_rfl
theorem ag13 : aggO Tryz.prog 13 = some true:=by kernel_rfl
theorem el13 : elO Tryz.prog 13 = none:=by kernel_rfl
theorem st13 : strO Tryz.prog 13 = false:=by kernel_rfl
theorem u813 : u8O Tryz.prog 13 = false:=by kernel_rfl
theorem em13 : emptyO Tryz.prog 13 = some (.sl 2 []):=by kernel_rfl
theorem fd13_0 : fldO Tryz.prog 13 0 = some (0,9):=by kernel_rfl
theorem fd13_1 : fldO Tryz.prog 13 1 = some (1,12):=by kernel_rfl
theorem pl13 : plO Tryz.prog 13 = some [(0,1),(1,1)]:=by kernel_rfl
theorem sz21 : szO Tryz.prog 21 = some 1:=by kernel_rfl
theorem by21 : byO Tryz.prog 21 = some 4:=by kernel_rfl
theorem ze21 : zeroO Tryz.prog 21 = some [.int .i32 0]:=by kernel_rfl
theorem ag21 : aggO Tryz.prog 21 = some false:=by kernel_rfl
theorem el21 : elO Tryz.prog 21 = none:=by kernel_rfl
theorem in21 : intO Tryz.prog 21 = some .i32:=by kernel_rfl
theorem st21 : strO Tryz.prog 21 = false:=by kernel_rfl
theorem u821 : u8O Tryz.prog 21 = false:=by kernel_rfl
theorem em21 : emptyO Tryz.prog 21 = some (.ints .i32 []):=by kernel_rfl
theorem sz22 : szO Tryz.prog 22 = some 1:=by kernel_rfl
theorem by22 : byO Tryz.prog 22 = some 24:=by kernel_rfl
theorem ze22 : zeroO Tryz.prog 22 = some [.slice none 0 0]:=by kernel_rfl
theorem ag22 : aggO Tryz.prog 22 = some false:=by kernel_rfl
theorem el22 : elO Tryz.prog 22 = some 105:=by kernel_rfl
theorem st22 : strO Tryz.prog 22 = false:=by kernel_rfl
theorem u822 : u8O Tryz.prog 22 = false:=by kernel_rfl
theorem em22 : emptyO Tryz.prog 22 = some (.sl 1 []):=by kernel_rfl
theorem sz23 : szO Tryz.prog 23 = some 2:=by kernel_rfl
theorem by23 : byO Tryz.prog 23 = some 32:=by kernel_rfl
theorem ze23 : zeroO Tryz.prog 23 = some [.bool false,.slice none 0 0]:=by kernel_rfl
theorem ag23 : aggO Tryz.prog 23 = some true:=by kernel_rfl
theorem el23 : elO Tryz.prog 23 = none:=by kernel_rfl
theorem st23 : strO Tryz.prog 23 = false:=by kernel_rfl
theorem u823 : u8O Tryz.prog 23 = false:=by kernel_rfl
theorem em23 : emptyO Tryz.prog 23 = some (.sl 2 []):=by kernel_rfl
theorem fd23_0 : fldO Tryz.prog 23 0 = some (0,4):=by kernel_rfl
theorem fd23_1 : fldO Tryz.prog 23 1 = some (1,22):=by kernel_rfl
theorem pl23 : plO Tryz.prog 23 = some [(0,1),(1,1)]:=by kernel_rfl
theorem sz24 : szO Tryz.prog 24 = some 2:=by kernel_rfl
theorem by24 : byO Tryz.prog 24 = some 32:=by kernel_rfl
theorem ze24 : zeroO Tryz.prog 24 = some [.bool false,.slice none 0 0]:=by kernel_rfl
theorem ag24 : aggO Tryz.prog 24 = some true:=by kernel_rfl
theorem el24 : elO Tryz.prog 24 = none:=by kernel_rfl
theorem st24 : strO Tryz.prog 24 = false:=by kernel_rfl
theorem u824 : u8O Tryz.prog 24 = false:=by kernel_rfl
theorem em24 : emptyO Tryz.prog 24 = some (.sl 2 []):=by kernel_rfl
theorem fd24_0 : fldO Tryz.prog 24 0 = some (0,4):=by kernel_rfl
theorem fd24_1 : fldO Tryz.prog 24 1 = some (1,22):=by kernel_rfl
theorem pl24 : plO Tryz.prog 24 = some [(0,1),(1,1)]:=by kernel_rfl
theorem sz25 : szO Tryz.prog 25 = some 5:=by kernel_rfl
theorem by25 : byO Tryz.prog 25 = some 56:=by kernel_rfl
theorem ze25 : zeroO Tryz.prog 25 = some [.int .i64 0,.bool false,.bool false,.slice none 0 0,.int .i64 0]:=by kernel_rfl
theorem ag25 : aggO Tryz.prog 25 = some true:=by kernel_rfl
theorem el25 : elO Tryz.prog 25 = none:=by kernel_rfl
theorem st25 : strO Tryz.prog 25 = false:=by kernel_rfl
theorem u825 : u8O Tryz.prog 25 = false:=by kernel_rfl
theorem em25 : emptyO Tryz.prog 25 = some (.sl 5 []):=by kernel_rfl
theorem fd25_0 : fldO Tryz.prog 25 0 = some (0,3):=by kernel_rfl
theorem fd25_1 : fldO Tryz.prog 25 1 = some (1,4):=by kernel_rfl
theorem fd25_2 : fldO Tryz.prog 25 2 = some (2,24):=by kernel_rfl
theorem fd25_3 : fldO Tryz.prog 25 3 = some (4,3):=by kernel_rfl
theorem pl25 : plO Tryz.prog 25 = some [(0,1),(1,1),(2,2),(4,1)]:=by kernel_rfl
theorem sz26 : szO Tryz.prog 26 = some 5:=by kernel_rfl
theorem by26 : byO Tryz.prog 26 = some 56:=by kernel_rfl
theorem ze26 : zeroO Tryz.prog 26 = some [.int .i64 0,.bool false,.bool false,.slice none 0 0,.int .i64 0]:=by kernel_rfl
theorem ag26 : aggO Tryz.prog 26 = some true:=by kernel_rfl
theorem el26 : elO Tryz.prog 26 = none:=by kernel_rfl
theorem st26 : strO Tryz.prog 26 = false:=by kernel_rfl
theorem u826 : u8O Tryz.prog 26 = false:=by kernel_rfl
theorem em26 : emptyO Tryz.prog 26 = some (.sl 5 []):=by kernel_rfl
theorem fd26_0 : fldO Tryz.prog 26 0 = some (0,3):=by kernel_rfl
theorem fd26_1 : fldO Tryz.prog 26 1 = some (1,4):=by kernel_rfl
theorem fd26_2 : fldO Tryz.prog 26 2 = some (2,24):=by kernel_rfl
theorem fd26_3 : fldO Tryz.prog 26 3 = some (4,3):=by kernel_rfl
theorem pl26 : plO Tryz.prog 26 = some [(0,1),(1,1),(2,2),(4,1)]:=by kernel_rfl
theorem sz27 : szO Tryz.prog 27 = some 4:=by kernel_rfl
theorem by27 : byO Tryz.prog 27 = some 32:=by kernel_rfl
theorem ze27 : zeroO Tryz.prog 27 = some [.int .i64 0,.int .i64 0,.int .i64 0,.int .i64 0]:=by kernel_rfl
theorem ag27 : aggO Tryz.prog 27 = some true:=by kernel_rfl
theorem el27 : elO Tryz.prog 27 = none:=by kernel_rfl
theorem st27 : strO Tryz.prog 27 = false:=by kernel_rfl
theorem u827 : u8O Tryz.prog 27 = false:=by kernel_rfl
theorem em27 : emptyO Tryz.prog 27 = some (.sl 4 []):=by kernel_rfl
theorem fd27_0 : fldO Tryz.prog 27 0 = some (0,3):=by kernel_rfl
theorem fd27_1 : fldO Tryz.prog 27 1 = some (1,3):=by kernel_rfl
theorem fd27_2 : fldO Tryz.prog 27 2 = some (2,3):=by kernel_rfl
theorem fd27_3 : fldO Tryz.prog 27 3 = some (3,3):=by kernel_rfl
theorem pl27 : plO Tryz.prog 27 = some [(0,1),(1,1),(2,1),(3,1)]:=by kernel_rfl
theorem sz28 : szO Tryz.prog 28 = some 4:=by kernel_rfl
theorem by28 : byO Tryz.prog 28 = some 32:=by kernel_rfl
theorem ze28 : zeroO Tryz.prog 28 = some [.int .i64 0,.int .i64 0,.int .i64 0,.int .i64 0]:=by kernel_rfl
theorem ag28 : aggO Tryz.prog 28 = some true:=by kernel_rfl
theorem el28 : elO Tryz.prog 28 = none:=by kernel_rfl
theorem st28 : strO Tryz.prog 28 = false:=by kernel_rfl
theorem u828 : u8O Tryz.prog 28 = false:=by kernel_rfl
theorem em28 : emptyO Tryz.prog 28 = some (.sl 4 []):=by kernel_rfl
theorem fd28_0 : fldO Tryz.prog 28 0 = some (0,3):=by kernel_rfl
theorem fd28_1 : fldO Tryz.prog 28 1 = some (1,3):=by kernel_rfl
theorem fd28_2 : fldO Tryz.prog 28 2 = some (2,3):=by kernel_rfl
theorem fd28_3 : fldO Tryz.prog 28 3 = some (3,3):=by kernel_rfl
theorem pl28 : plO Tryz.prog 28 = some [(0,1),(1,1),(2,1),(3,1)]:=by kernel_rfl
theorem sz30 : szO Tryz.prog 30 = some 1:=by kernel_rfl
theorem by30 : byO Tryz.prog 30 = some 24:=by kernel_rfl
theorem ze30 : zeroO Tryz.prog 30 = some [.slice none 0 0]:=by kernel_rfl
theorem ag30 : aggO Tryz.prog 30 = some false:=by kernel_rfl
theorem el30 : elO Tryz.prog 30 = some 3:=by kernel_rfl
theorem st30 : strO Tryz.prog 30 = false:=by kernel_rfl
theorem u830 : u8O Tryz.prog 30 = false:=by kernel_rfl
theorem em30 : emptyO Tryz.prog 30 = some (.sl 1 []):=by kernel_rfl
theorem sz31 : szO Tryz.prog 31 = some 1:=by kernel_rfl
theorem by31 : byO Tryz.prog 31 = some 24:=by kernel_rfl
theorem ze31 : zeroO Tryz.prog 31 = some [.slice none 0 0]:=by kernel_rfl
theorem ag31 : aggO Tryz.prog 31 = some false:=by kernel_rfl
theorem el31 : elO Tryz.prog 31 = some 3:=by kernel_rfl
theorem st31 : strO Tryz.prog 31 = false:=by kernel_rfl
theorem u831 : u8O Tryz.prog 31 = false:=by kernel_rfl
theorem em31 : emptyO Tryz.prog 31 = some (.sl 1 []):=by kernel_rfl
theorem sz33 : szO Tryz.prog 33 = some 2:=by kernel_rfl
theorem by33 : byO Tryz.prog 33 = some 16:=by kernel_rfl
theorem ze33 : zeroO Tryz.prog 33 = some [.int .i64 0,.int .i64 0]:=by kernel_rfl
theorem ag33 : aggO Tryz.prog 33 = some true:=by kernel_rfl
theorem el33 : elO Tryz.prog 33 = none:=by kernel_rfl
theorem st33 : strO Tryz.prog 33 = false:=by kernel_rfl
theorem u833 : u8O Tryz.prog 33 = false:=by kernel_rfl
theorem em33 : emptyO Tryz.prog 33 = some (.sl 2 []):=by kernel_rfl
theorem fd33_0 : fldO Tryz.prog 33 0 = some (0,3):=by kernel_rfl
theorem fd33_1 : fldO Tryz.prog 33 1 = some (1,3):=by kernel_rfl
theorem pl33 : plO Tryz.prog 33 = some [(0,1),(1,1)]:=by kernel_rfl
theorem sz34 : szO Tryz.prog 34 = some 2:=by kernel_rfl
theorem by34 : byO Tryz.prog 34 = some 16:=by kernel_rfl
theorem ze34 : zeroO Tryz.prog 34 = some [.int .i64 0,.int .i64 0]:=by kernel_rfl
theorem ag34 : aggO Tryz.prog 34 = some true:=by kernel_rfl
theorem el34 : elO Tryz.prog 34 = none:=by kernel_rfl
theorem st34 : strO Tryz.prog 34 = false:=by kernel_rfl
theorem u834 : u8O Tryz.prog 34 = false:=by kernel_rfl
theorem em34 : emptyO Tryz.prog 34 = some (.sl 2 []):=by kernel_rfl
theorem fd34_0 : fldO Tryz.prog 34 0 = some (0,3):=by kernel_rfl
theorem fd34_1 : fldO Tryz.prog 34 1 = some (1,3):=by kernel_rfl
theorem pl34 : plO Tryz.prog 34 = some [(0,1),(1,1)]:=by kernel_rfl
theorem sz40 : szO Tryz.prog 40 = some 4:=by kernel_rfl
theorem by40 : byO Tryz.prog 40 = some 64:=by kernel_rfl
theorem ze40 : zeroO Tryz.prog 40 = some [.bool false,.slice none 0 0,.bool false,.slice none 0 0]:=by kernel_rfl
theorem ag40 : aggO Tryz.prog 40 = some true:=by kernel_rfl
theorem el40 : elO Tryz.prog 40 = none:=by kernel_rfl
theorem st40 : strO Tryz.prog 40 = false:=by kernel_rfl
theorem u840 : u8O Tryz.prog 40 = false:=by kernel_rfl
theorem em40 : emptyO Tryz.prog 40 = some (.sl 4 []):=by kernel_rfl
theorem fd40_0 : fldO Tryz.prog 40 0 = some (0,24):=by kernel_rfl
theorem fd40_1 : fldO Tryz.prog 40 1 = some (2,24):=by kernel_rfl
theorem pl40 : plO Tryz.prog 40 = some [(0,2),(2,2)]:=by kernel_rfl
theorem sz41 : szO Tryz.prog 41 = some 4:=by kernel_rfl
theorem by41 : byO Tryz.prog 41 = some 64:=by kernel_rfl
theorem ze41 : zeroO Tryz.prog 41 = some [.bool false,.slice none 0 0,.bool false,.slice none 0 0]:=by kernel_rfl
theorem ag41 : aggO Tryz.prog 41 = some true:=by kernel_rfl
theorem el41 : elO Tryz.prog 41 = none:=by kernel_rfl
theorem st41 : strO Tryz.prog 41 = false:=by kernel_rfl
theorem u841 : u8O Tryz.prog 41 = false:=by kernel_rfl
theorem em41 : emptyO Tryz.prog 41 = some (.sl 4 []):=by kernel_rfl
theorem fd41_0 : fldO Tryz.prog 41 0 = some (0,24):=by kernel_rfl
theorem fd41_1 : fldO Tryz.prog 41 1 = some (2,24):=by kernel_rfl
theorem pl41 : plO Tryz.prog 41 = some [(0,2),(2,2)]:=by kernel_rfl
theorem sz45 : szO Tryz.prog 45 = some 1:=by kernel_rfl
theorem by45 : byO Tryz.prog 45 = some 24:=by kernel_rfl
theorem ze45 : zeroO Tryz.prog 45 = some [.slice none 0 0]:=by kernel_rfl
theorem ag45 : aggO Tryz.prog 45 = some false:=by kernel_rfl
theorem el45 : elO Tryz.prog 45 = some 44:=by kernel_rfl
theorem st45 : strO Tryz.prog 45 = false:=by kernel_rfl
theorem u845 : u8O Tryz.prog 45 = false:=by kernel_rfl
theorem em45 : emptyO Tryz.prog 45 = some (.sl 1 []):=by kernel_rfl
theorem sz46 : szO Tryz.prog 46 = some 1:=by kernel_rfl
theorem by46 : byO Tryz.prog 46 = some 24:=by kernel_rfl
theorem ze46 : zeroO Tryz.prog 46 = some [.slice none 0 0]:=by kernel_rfl
theorem ag46 : aggO Tryz.prog 46 = some false:=by kernel_rfl
theorem el46 : elO Tryz.prog 46 = some 36:=by kernel_rfl
theorem st46 : strO Tryz.prog 46 = false:=by kernel_rfl
theorem u846 : u8O Tryz.prog 46 = false:=by kernel_rfl
theorem em46 : emptyO Tryz.prog 46 = some (.sl 1 []):=by kernel_rfl
theorem sz73 : szO Tryz.prog 73 = some 2:=by kernel_rfl
theorem by73 : byO Tryz.prog 73 = some 32:=by kernel_rfl
theorem ze73 : zeroO Tryz.prog 73 = some [.bool false,.slice none 0 0]:=by kernel_rfl
theorem ag73 : aggO Tryz.prog 73 = some true:=by kernel_rfl
theorem el73 : elO Tryz.prog 73 = none:=by kernel_rfl
theorem st73 : strO Tryz.prog 73 = false:=by kernel_rfl
theorem u873 : u8O Tryz.prog 73 = false:=by kernel_rfl
theorem em73 : emptyO Tryz.prog 73 = some (.sl 2 []):=by kernel_rfl
theorem fd73_0 : fldO Tryz.prog 73 0 = some (0,4):=by kernel_rfl
theorem fd73_1 : fldO Tryz.prog 73 1 = some (1,31):=by kernel_rfl
theorem pl73 : plO Tryz.prog 73 = some [(0,1),(1,1)]:=by kernel_rfl
theorem sz74 : szO Tryz.prog 74 = some 2:=by kernel_rfl
theorem by74 : byO Tryz.prog 74 = some 32:=by kernel_rfl
theorem ze74 : zeroO Tryz.prog 74 = some [.bool false,.slice none 0 0]:=by kernel_rfl
theorem ag74 : aggO Tryz.prog 74 = some true:=by kernel_rfl
theorem el74 : elO Tryz.prog 74 = none:=by kernel_rfl
theorem st74 : strO Tryz.prog 74 = false:=by kernel_rfl
theorem u874 : u8O Tryz.prog 74 = false:=by kernel_rfl
theorem em74 : emptyO Tryz.prog 74 = some (.sl 2 []):=by kernel_rfl
theorem fd74_0 : fldO Tryz.prog 74 0 = some (0,4):=by kernel_rfl
theorem fd74_1 : fldO Tryz.prog 74 1 = some (1,31):=by kernel_rfl
theorem pl74 : plO Tryz.prog 74 = some [(0,1),(1,1)]:=by kernel_rfl
theorem sz75 : szO Tryz.prog 75 = some 3:=by kernel_rfl
theorem by75 : byO Tryz.prog 75 = some 56:=by kernel_rfl
theorem ze75 : zeroO Tryz.prog 75 = some [.bool false,.slice none 0 0,.slice none 0 0]:=by kernel_rfl
theorem ag75 : aggO Tryz.prog 75 = some true:=by kernel_rfl
theorem el75 : elO Tryz.prog 75 = none:=by kernel_rfl
theorem st75 : strO Tryz.prog 75 = false:=by kernel_rfl
theorem u875 : u8O Tryz.prog 75 = false:=by kernel_rfl
theorem em75 : emptyO Tryz.prog 75 = some (.sl 3 []):=by kernel_rfl
theorem fd75_0 : fldO Tryz.prog 75 0 = some (0,74):=by kernel_rfl
theorem fd75_1 : fldO Tryz.prog 75 1 = some (2,31):=by kernel_rfl
theorem pl75 : plO Tryz.prog 75 = some [(0,2),(2,1)]:=by kernel_rfl
theorem sz76 : szO Tryz.prog 76 = some 3:=by kernel_rfl
theorem by76 : byO Tryz.prog 76 = some 56:=by kernel_rfl
theorem ze76 : zeroO Tryz.prog 76 = some [.bool false,.slice none 0 0,.slice none 0 0]:=by kernel_rfl
theorem ag76 : aggO Tryz.prog 76 = some true:=by kernel_rfl
theorem el76 : elO Tryz.prog 76 = none:=by kernel_rfl
theorem st76 : strO Tryz.prog 76 = false:=by kernel_rfl
theorem u876 : u8O Tryz.prog 76 = false:=by kernel_rfl
theorem em76 : emptyO Tryz.prog 76 = some (.sl 3 []):=by kernel_rfl
theorem fd76_0 : fldO Tryz.prog 76 0 = some (0,74):=by kernel_rfl
theorem fd76_1 : fldO Tryz.prog 76 1 = some (2,31):=by kernel_rfl
theorem pl76 : plO Tryz.prog 76 = some [(0,2),(2,1)]:=by kernel_rfl
theorem sz85 : szO Tryz.prog 85 = some 4:=by kernel_rfl
theorem by85 : byO Tryz.prog 85 = some 64:=by kernel_rfl
theorem ze85 : zeroO Tryz.prog 85 = some [.bool false,.slice none 0 0,.slice none 0 0,.int .i64 0]:=by kernel_rfl
theorem ag85 : aggO Tryz.prog 85 = some true:=by kernel_rfl
theorem el85 : elO Tryz.prog 85 = none:=by kernel_rfl
theorem st85 : strO Tryz.prog 85 = false:=by kernel_rfl
theorem u885 : u8O Tryz.prog 85 = false:=by kernel_rfl
theorem em85 : emptyO Tryz.prog 85 = some (.sl 4 []):=by kernel_rfl
theorem fd85_0 : fldO Tryz.prog 85 0 = some (0,4):=by kernel_rfl
theorem fd85_1 : fldO Tryz.prog 85 1 = some (1,31):=by kernel_rfl
theorem fd85_2 : fldO Tryz.prog 85 2 = some (2,31):=by kernel_rfl
theorem fd85_3 : fldO Tryz.prog 85 3 = some (3,3):=by kernel_rfl
theorem pl85 : plO Tryz.prog 85 = some [(0,1),(1,1),(2,1),(3,1)]:=by kernel_rfl
theorem sz86 : szO Tryz.prog 86 = some 4:=by kernel_rfl
theorem by86 : byO Tryz.prog 86 = some 64:=by kernel_rfl
theorem ze86 : zeroO Tryz.prog 86 = some [.bool false,.slice none 0 0,.slice none 0 0,.int .i64 0]:=by kernel_rfl
theorem ag86 : aggO Tryz.prog 86 = some true:=by kernel_rfl
theorem el86 : elO Tryz.prog 86 = none:=by kernel_rfl
theorem st86 : strO Tryz.prog 86 = false:=by kernel_rfl
theorem u886 : u8O Tryz.prog 86 = false:=by kernel_rfl
theorem em86 : emptyO Tryz.prog 86 = some (.sl 4 []):=by kernel_rfl
theorem fd86_0 : fldO Tryz.prog 86 0 = some (0,4):=by kernel_rfl
theorem fd86_1 : fldO Tryz.prog 86 1 = some (1,31):=by kernel_rfl
theorem fd86_2 : fldO Tryz.prog 86 2 = some (2,31):=by kernel_rfl
theorem fd86_3 : fldO Tryz.prog 86 3 = some (3,3):=by kernel_rfl
theorem pl86 : plO Tryz.prog 86 = some [(0,1),(1,1),(2,1),(3,1)]:=by kernel_rfl
theorem sz88 : szO Tryz.prog 88 = some 1:=by kernel_rfl
theorem by88 : byO Tryz.prog 88 = some 24:=by kernel_rfl
theorem ze88 : zeroO Tryz.prog 88 = some [.slice none 0 0]:=by kernel_rfl
theorem ag88 : aggO Tryz.prog 88 = some false:=by kernel_rfl
theorem el88 : elO Tryz.prog 88 = some 26:=by kernel_rfl
theorem st88 : strO Tryz.prog 88 = false:=by kernel_rfl
theorem u888 : u8O Tryz.prog 88 = false:=by kernel_rfl
theorem em88 : emptyO Tryz.prog 88 = some (.sl 1 []):=by kernel_rfl
theorem sz100 : szO Tryz.prog 100 = some 4:=by kernel_rfl
theorem by100 : byO Tryz.prog 100 = some 64:=by kernel_rfl
theorem ze100 : zeroO Tryz.prog 100 = some [.bool false,.slice none 0 0,.slice none 0 0,.int .i64 0]:=by kernel_rfl
theorem ag100 : aggO Tryz.prog 100 = some true:=by kernel_rfl
theorem el100 : elO Tryz.prog 100 = none:=by kernel_rfl
theorem st100 : strO Tryz.prog 100 = false:=by kernel_rfl
theorem u8100 : u8O Tryz.prog 100 = false:=by kernel_rfl
theorem em100 : emptyO Tryz.prog 100 = some (.sl 4 []):=by kernel_rfl
theorem fd100_0 : fldO Tryz.prog 100 0 = some (0,4):=by kernel_rfl
theorem fd100_1 : fldO Tryz.prog 100 1 = some (1,22):=by kernel_rfl
theorem fd100_2 : fldO Tryz.prog 100 2 = some (2,22):=by kernel_rfl
theorem fd100_3 : fldO Tryz.prog 100 3 = some (3,3):=by kernel_rfl
theorem pl100 : plO Tryz.prog 100 = some [(0,1),(1,1),(2,1),(3,1)]:=by kernel_rfl
theorem sz101 : szO Tryz.prog 101 = some 4:=by kernel_rfl
theorem by101 : byO Tryz.prog 101 = some 64:=by kernel_rfl
theorem ze101 : zeroO Tryz.prog 101 = some [.bool false,.slice none 0 0,.slice none 0 0,.int .i64 0]:=by kernel_rfl
theorem ag101 : aggO Tryz.prog 101 = some true:=by kernel_rfl
theorem el101 : elO Tryz.prog 101 = none:=by kernel_rfl
theorem st101 : strO Tryz.prog 101 = false:=by kernel_rfl
theorem u8101 : u8O Tryz.prog 101 = false:=by kernel_rfl
theorem em101 : emptyO Tryz.prog 101 = some (.sl 4 []):=by kernel_rfl
theorem fd101_0 : fldO Tryz.prog 101 0 = some (0,4):=by kernel_rfl
theorem fd101_1 : fldO Tryz.prog 101 1 = some (1,22):=by kernel_rfl
theorem fd101_2 : fldO Tryz.prog 101 2 = some (2,22):=by kernel_rfl
theorem fd101_3 : fldO Tryz.prog 101 3 = some (3,3):=by kernel_rfl
theorem pl101 : plO Tryz.prog 101 = some [(0,1),(1,1),(2,1),(3,1)]:=by kernel_rfl
theorem sz105 : szO Tryz.prog 105 = some 1:=by kernel_rfl
theorem by105 : byO Tryz.prog 105 = some 4:=by kernel_rfl
theorem ze105 : zeroO Tryz.prog 105 = some [.int .u32 0]:=by kernel_rfl
theorem ag105 : aggO Tryz.prog 105 = some false:=by kernel_rfl
theorem el105 : elO Tryz.prog 105 = none:=by kernel_rfl
theorem in105 : intO Tryz.prog 105 = some .u32:=by kernel_rfl
theorem st105 : strO Tryz.prog 105 = false:=by kernel_rfl
theorem u8105 : u8O Tryz.prog 105 = false:=by kernel_rfl
theorem em105 : emptyO Tryz.prog 105 = some (.ints .u32 []):=by kernel_rfl
theorem sz160 : szO Tryz.prog 160 = some 1:=by kernel_rfl
theorem by160 : byO Tryz.prog 160 = some 24:=by kernel_rfl
theorem ze160 : zeroO Tryz.prog 160 = some [.slice none 0 0]:=by kernel_rfl
theorem ag160 : aggO Tryz.prog 160 = some false:=by kernel_rfl
theorem el160 : elO Tryz.prog 160 = some 4:=by kernel_rfl
theorem st160 : strO Tryz.prog 160 = false:=by kernel_rfl
theorem u8160 : u8O Tryz.prog 160 = false:=by kernel_rfl
theorem em160 : emptyO Tryz.prog 160 = some (.sl 1 []):=by kernel_rfl
theorem sz171 : szO Tryz.prog 171 = some 1:=by kernel_rfl
theorem by171 : byO Tryz.prog 171 = some 24:=by kernel_rfl
theorem ze171 : zeroO Tryz.prog 171 = some [.slice none 0 0]:=by kernel_rfl
theorem ag171 : aggO Tryz.prog 171 = some false:=by kernel_rfl
theorem el171 : elO Tryz.prog 171 = some 5:=by kernel_rfl
theorem st171 : strO Tryz.prog 171 = false:=by kernel_rfl
theorem u8171 : u8O Tryz.prog 171 = true:=by kernel_rfl
theorem em171 : emptyO Tryz.prog 171 = some (.sl 1 []):=by kernel_rfl
theorem sz172 : szO Tryz.prog 172 = some 1:=by kernel_rfl
theorem by172 : byO Tryz.prog 172 = some 8:=by kernel_rfl
theorem ze172 : zeroO Tryz.prog 172 = some [.int .u64 0]:=by kernel_rfl
theorem ag172 : aggO Tryz.prog 172 = some false:=by kernel_rfl
theorem el172 : elO Tryz.prog 172 = none:=by kernel_rfl
theorem in172 : intO Tryz.prog 172 = some .u64:=by kernel_rfl
theorem st172 : strO Tryz.prog 172 = false:=by kernel_rfl
theorem u8172 : u8O Tryz.prog 172 = false:=by kernel_rfl
theorem em172 : emptyO Tryz.prog 172 = some (.ints .u64 []):=by kernel_rfl
theorem sz176 : szO Tryz.prog 176 = some 1:=by kernel_rfl
theorem by176 : byO Tryz.prog 176 = some 8:=by kernel_rfl
theorem ze176 : zeroO Tryz.prog 176 = some [.pointer none]:=by kernel_rfl
theorem ag176 : aggO Tryz.prog 176 = some false:=by kernel_rfl
theorem el176 : elO Tryz.prog 176 = none:=by kernel_rfl
theorem st176 : strO Tryz.prog 176 = false:=by kernel_rfl
theorem u8176 : u8O Tryz.prog 176 = false:=by kernel_rfl
theorem em176 : emptyO Tryz.prog 176 = some (.sl 1 []):=by kernel_rfl
theorem sz177 : szO Tryz.prog 177 = some 2:=by kernel_rfl
theorem by177 : byO Tryz.prog 177 = some 32:=by kernel_rfl
theorem ze177 : zeroO Tryz.prog 177 = some [.pointer none,.slice none 0 0]:=by kernel_rfl
theorem ag177 : aggO Tryz.prog 177 = some true:=by kernel_rfl
theorem el177 : elO Tryz.prog 177 = none:=by kernel_rfl
theorem st177 : strO Tryz.prog 177 = false:=by kernel_rfl
theorem u8177 : u8O Tryz.prog 177 = false:=by kernel_rfl
theorem em177 : emptyO Tryz.prog 177 = some (.sl 2 []):=by kernel_rfl
theorem fd177_0 : fldO Tryz.prog 177 0 = some (0,176):=by kernel_rfl
theorem fd177_1 : fldO Tryz.prog 177 1 = some (1,171):=by kernel_rfl
theorem pl177 : plO Tryz.prog 177 = some [(0,1),(1,1)]:=by kernel_rfl
theorem sz178 : szO Tryz.prog 178 = some 2:=by kernel_rfl
theorem by178 : byO Tryz.prog 178 = some 32:=by kernel_rfl
theorem ze178 : zeroO Tryz.prog 178 = some [.pointer none,.slice none 0 0]:=by kernel_rfl
theorem ag178 : aggO Tryz.prog 178 = some true:=by kernel_rfl
theorem el178 : elO Tryz.prog 178 = none:=by kernel_rfl
theorem st178 : strO Tryz.prog 178 = false:=by kernel_rfl
theorem u8178 : u8O Tryz.prog 178 = false:=by kernel_rfl
theorem em178 : emptyO Tryz.prog 178 = some (.sl 2 []):=by kernel_rfl
theorem fd178_0 : fldO Tryz.prog 178 0 = some (0,176):=by kernel_rfl
theorem fd178_1 : fldO Tryz.prog 178 1 = some (1,171):=by kernel_rfl
theorem pl178 : plO Tryz.prog 178 = some [(0,1),(1,1)]:=by kernel_rfl
theorem sz189 : szO Tryz.prog 189 = some 1:=by kernel_rfl
theorem by189 : byO Tryz.prog 189 = some 24:=by kernel_rfl
theorem ze189 : zeroO Tryz.prog 189 = some [.slice none 0 0]:=by kernel_rfl
theorem ag189 : aggO Tryz.prog 189 = some false:=by kernel_rfl
theorem el189 : elO Tryz.prog 189 = some 41:=by kernel_rfl
theorem st189 : strO Tryz.prog 189 = false:=by kernel_rfl
theorem u8189 : u8O Tryz.prog 189 = false:=by kernel_rfl
theorem em189 : emptyO Tryz.prog 189 = some (.sl 1 []):=by kernel_rfl
theorem sz198 : szO Tryz.prog 198 = some 1:=by kernel_rfl
theorem by198 : byO Tryz.prog 198 = some 8:=by kernel_rfl
theorem ze198 : zeroO Tryz.prog 198 = some [.pointer none]:=by kernel_rfl
theorem ag198 : aggO Tryz.prog 198 = some false:=by kernel_rfl
theorem el198 : elO Tryz.prog 198 = none:=by kernel_rfl
theorem st198 : strO Tryz.prog 198 = false:=by kernel_rfl
theorem u8198 : u8O Tryz.prog 198 = false:=by kernel_rfl
theorem em198 : emptyO Tryz.prog 198 = some (.sl 1 []):=by kernel_rfl
theorem sz209 : szO Tryz.prog 209 = some 1:=by kernel_rfl
theorem by209 : byO Tryz.prog 209 = some 24:=by kernel_rfl
theorem ze209 : zeroO Tryz.prog 209 = some [.slice none 0 0]:=by kernel_rfl
theorem ag209 : aggO Tryz.prog 209 = some false:=by kernel_rfl
theorem el209 : elO Tryz.prog 209 = some 24:=by kernel_rfl
theorem st209 : strO Tryz.prog 209 = false:=by kernel_rfl
theorem u8209 : u8O Tryz.prog 209 = false:=by kernel_rfl
theorem em209 : emptyO Tryz.prog 209 = some (.sl 1 []):=by kernel_rfl
theorem sz219 : szO Tryz.prog 219 = some 1:=by kernel_rfl
theorem by219 : byO Tryz.prog 219 = some 8:=by kernel_rfl
theorem ze219 : zeroO Tryz.prog 219 = some [.int .u64 0]:=by kernel_rfl
theorem ag219 : aggO Tryz.prog 219 = some false:=by kernel_rfl
theorem el219 : elO Tryz.prog 219 = none:=by kernel_rfl
theorem in219 : intO Tryz.prog 219 = some .u64:=by kernel_rfl
theorem st219 : strO Tryz.prog 219 = false:=by kernel_rfl
theorem u8219 : u8O Tryz.prog 219 = false:=by kernel_rfl
theorem em219 : emptyO Tryz.prog 219 = some (.ints .u64 []):=by kernel_rfl
theorem sz222 : szO Tryz.prog 222 = some 1:=by kernel_rfl
theorem by222 : byO Tryz.prog 222 = some 8:=by kernel_rfl
theorem ze222 : zeroO Tryz.prog 222 = some [.pointer none]:=by kernel_rfl
theorem ag222 : aggO Tryz.prog 222 = some false:=by kernel_rfl
theorem el222 : elO Tryz.prog 222 = none:=by kernel_rfl
theorem st222 : strO Tryz.prog 222 = false:=by kernel_rfl
theorem u8222 : u8O Tryz.prog 222 = false:=by kernel_rfl
theorem em222 : emptyO Tryz.prog 222 = some (.sl 1 []):=by kernel_rfl
theorem sz242 : szO Tryz.prog 242 = some 1:=by kernel_rfl
theorem by242 : byO Tryz.prog 242 = some 8:=by kernel_rfl
theorem ze242 : zeroO Tryz.prog 242 = some [.int .i64 0]:=by kernel_rfl
theorem ag242 : aggO Tryz.prog 242 = some false:=by kernel_rfl
theorem el242 : elO Tryz.prog 242 = none:=by kernel_rfl
theorem in242 : intO Tryz.prog 242 = some .i64:=by kernel_rfl
theorem st242 : strO Tryz.prog 242 = false:=by kernel_rfl
theorem u8242 : u8O Tryz.prog 242 = false:=by kernel_rfl
theorem em242 : emptyO Tryz.prog 242 = some (.ints .i64 []):=by kernel_rfl
theorem sz250 : szO Tryz.prog 250 = some 20:=by kernel_rfl
theorem by250 : byO Tryz.prog 250 = some 160:=by kernel_rfl
theorem ze250 : zeroO Tryz.prog 250 = some [.int .u64 0,.int .u64 0,.int .u64 0,.int .u64 0,.int .u64 0,.int .u64 0,.int .u64 0,.int .u64 0,.int .u64 0,.int .u64 0,.int .u64 0,.int .u64 0,.int .u64 0,.int .u64 0,.int .u64 0,.int .u64 0,.int .u64 0,.int .u64 0,.int .u64 0,.int .u64 0]:=by kernel_rfl
theorem ag250 : aggO Tryz.prog 250 = some true:=by kernel_rfl
theorem el250 : elO Tryz.prog 250 = none:=by kernel_rfl
theorem st250 : strO Tryz.prog 250 = false:=by kernel_rfl
theorem u8250 : u8O Tryz.prog 250 = false:=by kernel_rfl
theorem em250 : emptyO Tryz.prog 250 = some (.sl 20 []):=by kernel_rfl
theorem pl250 : plO Tryz.prog 250 = some [(0,1),(1,1),(2,1),(3,1),(4,1),(5,1),(6,1),(7,1),(8,1),(9,1),(10,1),(11,1),(12,1),(13,1),(14,1),(15,1),(16,1),(17,1),(18,1),(19,1)]:=by kernel_rfl
theorem sz261 : szO Tryz.prog 261 = some 2:=by kernel_rfl
theorem by261 : byO Tryz.prog 261 = some 2:=by kernel_rfl
theorem ze261 : zeroO Tryz.prog 261 = some [.int .u8 0,.int .u8 0]:=by kernel_rfl
theorem ag261 : aggO Tryz.prog 261 = some true:=by kernel_rfl
theorem el261 : elO Tryz.prog 261 = none:=by kernel_rfl
theorem st261 : strO Tryz.prog 261 = false:=by kernel_rfl
theorem u8261 : u8O Tryz.prog 261 = false:=by kernel_rfl
theorem em261 : emptyO Tryz.prog 261 = some (.sl 2 []):=by kernel_rfl
theorem fd261_0 : fldO Tryz.prog 261 0 = some (0,5):=by kernel_rfl
theorem fd261_1 : fldO Tryz.prog 261 1 = some (1,5):=by kernel_rfl
theorem pl261 : plO Tryz.prog 261 = some [(0,1),(1,1)]:=by kernel_rfl
theorem sz262 : szO Tryz.prog 262 = some 2:=by kernel_rfl
theorem by262 : byO Tryz.prog 262 = some 2:=by kernel_rfl
theorem ze262 : zeroO Tryz.prog 262 = some [.int .u8 0,.int .u8 0]:=by kernel_rfl
theorem ag262 : aggO Tryz.prog 262 = some true:=by kernel_rfl
theorem el262 : elO Tryz.prog 262 = none:=by kernel_rfl
theorem st262 : strO Tryz.prog 262 = false:=by kernel_rfl
theorem u8262 : u8O Tryz.prog 262 = false:=by kernel_rfl
theorem em262 : emptyO Tryz.prog 262 = some (.sl 2 []):=by kernel_rfl
theorem fd262_0 : fldO Tryz.prog 262 0 = some (0,5):=by kernel_rfl
theorem fd262_1 : fldO Tryz.prog 262 1 = some (1,5):=by kernel_rfl
theorem pl262 : plO Tryz.prog 262 = some [(0,1),(1,1)]:=by kernel_rfl
theorem sz267 : szO Tryz.prog 267 = some 1:=by kernel_rfl
theorem by267 : byO Tryz.prog 267 = some 16:=by kernel_rfl
theorem ze267 : zeroO Tryz.prog 267 = some [.string ByteArray.empty]:=by kernel_rfl
theorem ag267 : aggO Tryz.prog 267 = some true:=by kernel_rfl
theorem el267 : elO Tryz.prog 267 = none:=by kernel_rfl
theorem st267 : strO Tryz.prog 267 = false:=by kernel_rfl
theorem u8267 : u8O Tryz.prog 267 = false:=by kernel_rfl
theorem em267 : emptyO Tryz.prog 267 = some (.sl 1 []):=by kernel_rfl
theorem fd267_0 : fldO Tryz.prog 267 0 = some (0,9):=by kernel_rfl
theorem pl267 : plO Tryz.prog 267 = some [(0,1)]:=by kernel_rfl
theorem sz269 : szO Tryz.prog 269 = some 32:=by kernel_rfl
theorem by269 : byO Tryz.prog 269 = some 32:=by kernel_rfl
theorem ze269 : zeroO Tryz.prog 269 = some [.int .u8 0,.int .u8 0,.int .u8 0,.int .u8 0,.int .u8 0,.int .u8 0,.int .u8 0,.int .u8 0,.int .u8 0,.int .u8 0,.int .u8 0,.int .u8 0,.int .u8 0,.int .u8 0,.int .u8 0,.int .u8 0,.int .u8 0,.int .u8 0,.int .u8 0,.int .u8 0,.int .u8 0,.int .u8 0,.int .u8 0,.int .u8 0,.int .u8 0,.int .u8 0,.int .u8 0,.int .u8 0,.int .u8 0,.int .u8 0,.int .u8 0,.int .u8 0]:=by kernel_rfl
theorem ag269 : aggO Tryz.prog 269 = some true:=by kernel_rfl
theorem el269 : elO Tryz.prog 269 = none:=by kernel_rfl
theorem st269 : strO Tryz.prog 269 = false:=by kernel_rfl
theorem u8269 : u8O Tryz.prog 269 = false:=by kernel_rfl
theorem em269 : emptyO Tryz.prog 269 = some (.sl 32 []):=by kernel_rfl
theorem pl269 : plO Tryz.prog 269 = some [(0,1),(1,1),(2,1),(3,1),(4,1),(5,1),(6,1),(7,1),(8,1),(9,1),(10,1),(11,1),(12,1),(13,1),(14,1),(15,1),(16,1),(17,1),(18,1),(19,1),(20,1),(21,1),(22,1),(23,1),(24,1),(25,1),(26,1),(27,1),(28,1),(29,1),(30,1),(31,1)]:=by kernel_rfl
attribute [go_sem] sz2 by2 ze2 ag2 el2 in2 st2 u82 em2 Tryz.underlying2 sz3 by3 ze3 ag3 el3 in3 st3 u83 em3 Tryz.underlying3 sz4 by4 ze4 ag4 el4 st4 u84 em4 Tryz.underlying4 sz5 by5 ze5 ag5 el5 in5 st5 u85 em5 Tryz.underlying5 sz9 by9 ze9 ag9 el9 st9 u89 em9 Tryz.underlying9 sz12 by12 ze12 ag12 el12 in12 st12 u812 em12 Tryz.underlying12 sz13 by13 ze13 ag13 el13 st13 u813 em13 fd13_0 fd13_1 pl13 Tryz.underlying13 sz21 by21 ze21 ag21 el21 in21 st21 u821 em21 Tryz.underlying21 sz22 by22 ze22 ag22 el22 st22 u822 em22 Tryz.underlying22 sz23 by23 ze23 ag23 el23 st23 u823 em23 fd23_0 fd23_1 pl23 Tryz.underlying23 sz24 by24 ze24 ag24 el24 st24 u824 em24 fd24_0 fd24_1 pl24 Tryz.underlying24 sz25 by25 ze25 ag25 el25 st25 u825 em25 fd25_0 fd25_1 fd25_2 fd25_3 pl25 Tryz.underlying25 sz26 by26 ze26 ag26 el26 st26 u826 em26 fd26_0 fd26_1 fd26_2 fd26_3 pl26 Tryz.underlying26 sz27 by27 ze27 ag27 el27 st27 u827 em27 fd27_0 fd27_1 fd27_2 fd27_3 pl27 Tryz.underlying27 sz28 by28 ze28 ag28 el28 st28 u828 em28 fd28_0 fd28_1 fd28_2 fd28_3 pl28 Tryz.underlying28 sz30 by30 ze30 ag30 el30 st30 u830 em30 Tryz.underlying30 sz31 by31 ze31 ag31 el31 st31 u831 em31 Tryz.underlying31 sz33 by33 ze33 ag33 el33 st33 u833 em33 fd33_0 fd33_1 pl33 Tryz.underlying33 sz34 by34 ze34 ag34 el34 st34 u834 em34 fd34_0 fd34_1 pl34 Tryz.underlying34 sz40 by40 ze40 ag40 el40 st40 u840 em40 fd40_0 fd40_1 pl40 Tryz.underlying40 sz41 by41 ze41 ag41 el41 st41 u841 em41 fd41_0 fd41_1 pl41 Tryz.underlying41 sz45 by45 ze45 ag45 el45 st45 u845 em45 Tryz.underlying45 sz46 by46 ze46 ag46 el46 st46 u846 em46 Tryz.underlying46 sz73 by73 ze73 ag73 el73 st73 u873 em73 fd73_0 fd73_1 pl73 Tryz.underlying73 sz74 by74 ze74 ag74 el74 st74 u874 em74 fd74_0 fd74_1 pl74 Tryz.underlying74 sz75 by75 ze75 ag75 el75 st75 u875 em75 fd75_0 fd75_1 pl75 Tryz.underlying75 sz76 by76 ze76 ag76 el76 st76 u876 em76 fd76_0 fd76_1 pl76 Tryz.underlying76 sz85 by85 ze85 ag85 el85 st85 u885 em85 fd85_0 fd85_1 fd85_2 fd85_3 pl85 Tryz.underlying85 sz86 by86 ze86 ag86 el86 st86 u886 em86 fd86_0 fd86_1 fd86_2 fd86_3 pl86 Tryz.underlying86 sz88 by88 ze88 ag88 el88 st88 u888 em88 Tryz.underlying88 sz100 by100 ze100 ag100 el100 st100 u8100 em100 fd100_0 fd100_1 fd100_2 fd100_3 pl100 Tryz.underlying100 sz101 by101 ze101 ag101 el101 st101 u8101 em101 fd101_0 fd101_1 fd101_2 fd101_3 pl101 Tryz.underlying101 sz105 by105 ze105 ag105 el105 in105 st105 u8105 em105 Tryz.underlying105 sz160 by160 ze160 ag160 el160 st160 u8160 em160 Tryz.underlying160 sz171 by171 ze171 ag171 el171 st171 u8171 em171 Tryz.underlying171 sz172 by172 ze172 ag172 el172 in172 st172 u8172 em172 Tryz.underlying172 sz176 by176 ze176 ag176 el176 st176 u8176 em176 Tryz.underlying176 sz177 by177 ze177 ag177 el177 st177 u8177 em177 fd177_0 fd177_1 pl177 Tryz.underlying177 sz178 by178 ze178 ag178 el178 st178 u8178 em178 fd178_0 fd178_1 pl178 Tryz.underlying178 sz189 by189 ze189 ag189 el189 st189 u8189 em189 Tryz.underlying189 sz198 by198 ze198 ag198 el198 st198 u8198 em198 Tryz.underlying198 sz209 by209 ze209 ag209 el209 st209 u8209 em209 Tryz.underlying209 sz219 by219 ze219 ag219 el219 in219 st219 u8219 em219 Tryz.underlying219 sz222 by222 ze222 ag222 el222 st222 u8222 em222 Tryz.underlying222 sz242 by242 ze242 ag242 el242 in242 st242 u8242 em242 Tryz.underlying242 sz250 by250 ze250 ag250 el250 st250 u8250 em250 pl250 Tryz.underlying250 sz261 by261 ze261 ag261 el261 st261 u8261 em261 fd261_0 fd261_1 pl261 Tryz.underlying261 sz262 by262 ze262 ag262 el262 st262 u8262 em262 fd262_0 fd262_1 pl262 Tryz.underlying262 sz267 by267 ze267 ag267 el267 st267 u8267 em267 fd267_0 pl267 Tryz.underlying267 sz269 by269 ze269 ag269 el269 st269 u8269 em269 pl269 Tryz.underlying269
end Go.Proofs.YtgkajjifbcmoeaaGreatDoor
