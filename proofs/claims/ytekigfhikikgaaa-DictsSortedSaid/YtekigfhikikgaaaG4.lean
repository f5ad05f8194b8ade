import Derived.Test.YtekigfhikikgaaaG3
import Derived.Test.YtekigfhikikgaaaRows
namespace Go.Proofs.Ytekigfhikikgaaa
set_option linter.unusedSimpArgs false
set_option linter.unusedVariables false
open Go.Abs
theorem sz2 : szO Try.prog 2 = some 1:=by kernel_rfl
theorem by2 : byO Try.prog 2 = some 8:=by kernel_rfl
theorem ze2 : zeroO Try.prog 2 = some [.int .i64 0]:=by kernel_rfl
theorem ag2 : aggO Try.prog 2 = some false:=by kernel_rfl
theorem el2 : elO Try.prog 2 = none:=by kernel_rfl
theorem in2 : intO Try.prog 2 = some .i64:=by kernel_rfl
theorem st2 : strO Try.prog 2 = false:=by kernel_rfl
theorem u82 : u8O Try.prog 2 = false:=by kernel_rfl
theorem em2 : emptyO Try.prog 2 = some (.ints .i64 []):=by kernel_rfl
theorem sz3 : szO Try.prog 3 = some 1:=by kernel_rfl
theorem by3 : byO Try.prog 3 = some 8:=by kernel_rfl
theorem ze3 : zeroO Try.prog 3 = some [.int .i64 0]:=by kernel_rfl
theorem ag3 : aggO Try.prog 3 = some false:=by kernel_rfl
theorem el3 : elO Try.prog 3 = none:=by kernel_rfl
theorem in3 : intO Try.prog 3 = some .i64:=by kernel_rfl
theorem st3 : strO Try.prog 3 = false:=by kernel_rfl
theorem u83 : u8O Try.prog 3 = false:=by kernel_rfl
theorem em3 : emptyO Try.prog 3 = some (.ints .i64 []):=by kernel_rfl
theorem sz4 : szO Try.prog 4 = some 1:=by kernel_rfl
theorem by4 : byO Try.prog 4 = some 1:=by kernel_rfl
theorem ze4 : zeroO Try.prog 4 = some [.bool false]:=by kernel_rfl
theorem ag4 : aggO Try.prog 4 = some false:=by kernel_rfl
theorem el4 : elO Try.prog 4 = none:=by kernel_rfl
theorem st4 : strO Try.prog 4 = false:=by kernel_rfl
theorem u84 : u8O Try.prog 4 = false:=by kernel_rfl
theorem em4 : emptyO Try.prog 4 = some (.bools []):=by kernel_rfl
theorem sz5 : szO Try.prog 5 = some 1:=by kernel_rfl
theorem by5 : byO Try.prog 5 = some 1:=by kernel_rfl
theorem ze5 : zeroO Try.prog 5 = some [.int .u8 0]:=by kernel_rfl
theorem ag5 : aggO Try.prog 5 = some false:=by kernel_rfl
theorem el5 : elO Try.prog 5 = none:=by kernel_rfl
theorem in5 : intO Try.prog 5 = some .u8:=by kernel_rfl
theorem st5 : strO Try.prog 5 = false:=by kernel_rfl
theorem u85 : u8O Try.prog 5 = false:=by kernel_rfl
theorem em5 : emptyO Try.prog 5 = some (.ints .u8 []):=by kernel_rfl
theorem sz9 : szO Try.prog 9 = some 1:=by kernel_rfl
theorem by9 : byO Try.prog 9 = some 16:=by kernel_rfl
theorem ze9 : zeroO Try.prog 9 = some [.string ByteArray.empty]:=by kernel_rfl
theorem ag9 : aggO Try.prog 9 = some false:=by kernel_rfl
theorem el9 : elO Try.prog 9 = none:=by kernel_rfl
theorem st9 : strO Try.prog 9 = true:=by kernel_rfl
theorem u89 : u8O Try.prog 9 = false:=by kernel_rfl
theorem em9 : emptyO Try.prog 9 = some (.sl 1 []):=by kernel_rfl
theorem sz12 : szO Try.prog 12 = some 1:=by kernel_rfl
theorem by12 : byO Try.prog 12 = some 8:=by kernel_rfl
theorem ze12 : zeroO Try.prog 12 = some [.int .u64 0]:=by kernel_rfl
theorem ag12 : aggO Try.prog 12 = some false:=by kernel_rfl
theorem el12 : elO Try.prog 12 = none:=by kernel_rfl
theorem in12 : intO Try.prog 12 = some .u64:=by kernel_rfl
theorem st12 : strO Try.prog 12 = false:=by kernel_rfl
theorem u812 : u8O Try.prog 12 = false:=by kernel_rfl
theorem em12 : emptyO Try.prog 12 = some (.ints .u64 []):=by kernel_rfl
theorem sz13 : szO Try.prog 13 = some 2:=by kernel_rfl
theorem by13 : byO Try.prog 13 = some 24:=by kernel_rfl
theorem ze13 : zeroO Try.prog 13 = some [.string ByteArray.empty,.int .u64 0]:=by kernel_rfl
theorem ag13 : aggO Try.prog 13 = some true:=by kernel_rfl
theorem el13 : elO Try.prog 13 = none:=by kernel_rfl
theorem st13 : strO Try.prog 13 = false:=by kernel_rfl
theorem u813 : u8O Try.prog 13 = false:=by kernel_rfl
theorem em13 : emptyO Try.prog 13 = some (.sl 2 []):=by kernel_rfl
theorem fd13_0 : fldO Try.prog 13 0 = some (0,9):=by kernel_rfl
theorem fd13_1 : fldO Try.prog 13 1 = some (1,12):=by kernel_rfl
theorem pl13 : plO Try.prog 13 = some [(0,1),(1,1)]:=by kernel_rfl
theorem sz21 : szO Try.prog 21 = some 1:=by kernel_rfl
theorem by21 : byO Try.prog 21 = some 4:=by kernel_rfl
theorem ze21 : zeroO Try.prog 21 = some [.int .i32 0]:=by kernel_rfl
theorem ag21 : aggO Try.prog 21 = some false:=by kernel_rfl
theorem el21 : elO Try.prog 21 = none:=by kernel_rfl
theorem in21 : intO Try.prog 21 = some .i32:=by kernel_rfl
theorem st21 : strO Try.prog 21 = false:=by kernel_rfl
theorem u821 : u8O Try.prog 21 = false:=by kernel_rfl
theorem em21 : emptyO Try.prog 21 = some (.ints .i32 []):=by kernel_rfl
theorem sz22 : szO Try.prog 22 = some 1:=by kernel_rfl
theorem by22 : byO Try.prog 22 = some 24:=by kernel_rfl
theorem ze22 : zeroO Try.prog 22 = some [.slice none 0 0]:=by kernel_rfl
theorem ag22 : aggO Try.prog 22 = some false:=by kernel_rfl
theorem el22 : elO Try.prog 22 = some 3:=by kernel_rfl
theorem st22 : strO Try.prog 22 = false:=by kernel_rfl
theorem u822 : u8O Try.prog 22 = false:=by kernel_rfl
theorem em22 : emptyO Try.prog 22 = some (.sl 1 []):=by kernel_rfl
theorem sz24 : szO Try.prog 24 = some 1:=by kernel_rfl
theorem by24 : byO Try.prog 24 = some 8:=by kernel_rfl
theorem ze24 : zeroO Try.prog 24 = some [.pointer none]:=by kernel_rfl
theorem ag24 : aggO Try.prog 24 = some false:=by kernel_rfl
theorem el24 : elO Try.prog 24 = none:=by kernel_rfl
theorem st24 : strO Try.prog 24 = false:=by kernel_rfl
theorem u824 : u8O Try.prog 24 = false:=by kernel_rfl
theorem em24 : emptyO Try.prog 24 = some (.sl 1 []):=by kernel_rfl
theorem sz27 : szO Try.prog 27 = some 2:=by kernel_rfl
theorem by27 : byO Try.prog 27 = some 16:=by kernel_rfl
theorem ze27 : zeroO Try.prog 27 = some [.int .i64 0,.int .i64 0]:=by kernel_rfl
theorem ag27 : aggO Try.prog 27 = some true:=by kernel_rfl
theorem el27 : elO Try.prog 27 = none:=by kernel_rfl
theorem st27 : strO Try.prog 27 = false:=by kernel_rfl
theorem u827 : u8O Try.prog 27 = false:=by kernel_rfl
theorem em27 : emptyO Try.prog 27 = some (.sl 2 []):=by kernel_rfl
theorem fd27_0 : fldO Try.prog 27 0 = some (0,3):=by kernel_rfl
theorem fd27_1 : fldO Try.prog 27 1 = some (1,3):=by kernel_rfl
theorem pl27 : plO Try.prog 27 = some [(0,1),(1,1)]:=by kernel_rfl
theorem sz28 : szO Try.prog 28 = some 2:=by kernel_rfl
theorem by28 : byO Try.prog 28 = some 16:=by kernel_rfl
theorem ze28 : zeroO Try.prog 28 = some [.int .i64 0,.int .i64 0]:=by kernel_rfl
theorem ag28 : aggO Try.prog 28 = some true:=by kernel_rfl
theorem el28 : elO Try.prog 28 = none:=by kernel_rfl
theorem st28 : strO Try.prog 28 = false:=by kernel_rfl
theorem u828 : u8O Try.prog 28 = false:=by kernel_rfl
theorem em28 : emptyO Try.prog 28 = some (.sl 2 []):=by kernel_rfl
theorem fd28_0 : fldO Try.prog 28 0 = some (0,3):=by kernel_rfl
theorem fd28_1 : fldO Try.prog 28 1 = some (1,3):=by kernel_rfl
theorem pl28 : plO Try.prog 28 = some [(0,1),(1,1)]:=by kernel_rfl
theorem sz31 : szO Try.prog 31 = some 1:=by kernel_rfl
theorem by31 : byO Try.prog 31 = some 8:=by kernel_rfl
theorem ze31 : zeroO Try.prog 31 = some [.int .u64 0]:=by kernel_rfl
theorem ag31 : aggO Try.prog 31 = some false:=by kernel_rfl
theorem el31 : elO Try.prog 31 = none:=by kernel_rfl
theorem in31 : intO Try.prog 31 = some .u64:=by kernel_rfl
theorem st31 : strO Try.prog 31 = false:=by kernel_rfl
theorem u831 : u8O Try.prog 31 = false:=by kernel_rfl
theorem em31 : emptyO Try.prog 31 = some (.ints .u64 []):=by kernel_rfl
theorem sz39 : szO Try.prog 39 = some 1:=by kernel_rfl
theorem by39 : byO Try.prog 39 = some 24:=by kernel_rfl
theorem ze39 : zeroO Try.prog 39 = some [.slice none 0 0]:=by kernel_rfl
theorem ag39 : aggO Try.prog 39 = some false:=by kernel_rfl
theorem el39 : elO Try.prog 39 = some 48:=by kernel_rfl
theorem st39 : strO Try.prog 39 = false:=by kernel_rfl
theorem u839 : u8O Try.prog 39 = false:=by kernel_rfl
theorem em39 : emptyO Try.prog 39 = some (.sl 1 []):=by kernel_rfl
theorem sz42 : szO Try.prog 42 = some 4:=by kernel_rfl
theorem by42 : byO Try.prog 42 = some 32:=by kernel_rfl
theorem ze42 : zeroO Try.prog 42 = some [.int .i64 0,.int .i64 0,.int .i64 0,.bool false]:=by kernel_rfl
theorem ag42 : aggO Try.prog 42 = some true:=by kernel_rfl
theorem el42 : elO Try.prog 42 = none:=by kernel_rfl
theorem st42 : strO Try.prog 42 = false:=by kernel_rfl
theorem u842 : u8O Try.prog 42 = false:=by kernel_rfl
theorem em42 : emptyO Try.prog 42 = some (.sl 4 []):=by kernel_rfl
theorem fd42_0 : fldO Try.prog 42 0 = some (0,3):=by kernel_rfl
theorem fd42_1 : fldO Try.prog 42 1 = some (1,3):=by kernel_rfl
theorem fd42_2 : fldO Try.prog 42 2 = some (2,3):=by kernel_rfl
theorem fd42_3 : fldO Try.prog 42 3 = some (3,4):=by kernel_rfl
theorem pl42 : plO Try.prog 42 = some [(0,1),(1,1),(2,1),(3,1)]:=by kernel_rfl
theorem sz43 : szO Try.prog 43 = some 4:=by kernel_rfl
theorem by43 : byO Try.prog 43 = some 32:=by kernel_rfl
theorem ze43 : zeroO Try.prog 43 = some [.int .i64 0,.int .i64 0,.int .i64 0,.bool false]:=by kernel_rfl
theorem ag43 : aggO Try.prog 43 = some true:=by kernel_rfl
theorem el43 : elO Try.prog 43 = none:=by kernel_rfl
theorem st43 : strO Try.prog 43 = false:=by kernel_rfl
theorem u843 : u8O Try.prog 43 = false:=by kernel_rfl
theorem em43 : emptyO Try.prog 43 = some (.sl 4 []):=by kernel_rfl
theorem fd43_0 : fldO Try.prog 43 0 = some (0,3):=by kernel_rfl
theorem fd43_1 : fldO Try.prog 43 1 = some (1,3):=by kernel_rfl
theorem fd43_2 : fldO Try.prog 43 2 = some (2,3):=by kernel_rfl
theorem fd43_3 : fldO Try.prog 43 3 = some (3,4):=by kernel_rfl
theorem pl43 : plO Try.prog 43 = some [(0,1),(1,1),(2,1),(3,1)]:=by kernel_rfl
theorem sz47 : szO Try.prog 47 = some 2:=by kernel_rfl
theorem by47 : byO Try.prog 47 = some 16:=by kernel_rfl
theorem ze47 : zeroO Try.prog 47 = some [.int .i64 0,.int .i64 0]:=by kernel_rfl
theorem ag47 : aggO Try.prog 47 = some true:=by kernel_rfl
theorem el47 : elO Try.prog 47 = none:=by kernel_rfl
theorem st47 : strO Try.prog 47 = false:=by kernel_rfl
theorem u847 : u8O Try.prog 47 = false:=by kernel_rfl
theorem em47 : emptyO Try.prog 47 = some (.sl 2 []):=by kernel_rfl
theorem fd47_0 : fldO Try.prog 47 0 = some (0,3):=by kernel_rfl
theorem fd47_1 : fldO Try.prog 47 1 = some (1,3):=by kernel_rfl
theorem pl47 : plO Try.prog 47 = some [(0,1),(1,1)]:=by kernel_rfl
theorem sz48 : szO Try.prog 48 = some 2:=by kernel_rfl
theorem by48 : byO Try.prog 48 = some 16:=by kernel_rfl
theorem ze48 : zeroO Try.prog 48 = some [.int .i64 0,.int .i64 0]:=by kernel_rfl
theorem ag48 : aggO Try.prog 48 = some true:=by kernel_rfl
theorem el48 : elO Try.prog 48 = none:=by kernel_rfl
theorem st48 : strO Try.prog 48 = false:=by kernel_rfl
theorem u848 : u8O Try.prog 48 = false:=by kernel_rfl
theorem em48 : emptyO Try.prog 48 = some (.sl 2 []):=by kernel_rfl
theorem fd48_0 : fldO Try.prog 48 0 = some (0,3):=by kernel_rfl
theorem fd48_1 : fldO Try.prog 48 1 = some (1,3):=by kernel_rfl
theorem pl48 : plO Try.prog 48 = some [(0,1),(1,1)]:=by kernel_rfl
theorem sz51 : szO Try.prog 51 = some 1:=by kernel_rfl
theorem by51 : byO Try.prog 51 = some 24:=by kernel_rfl
theorem ze51 : zeroO Try.prog 51 = some [.slice none 0 0]:=by kernel_rfl
theorem ag51 : aggO Try.prog 51 = some false:=by kernel_rfl
theorem el51 : elO Try.prog 51 = some 43:=by kernel_rfl
theorem st51 : strO Try.prog 51 = false:=by kernel_rfl
theorem u851 : u8O Try.prog 51 = false:=by kernel_rfl
theorem em51 : emptyO Try.prog 51 = some (.sl 1 []):=by kernel_rfl
theorem sz54 : szO Try.prog 54 = some 1:=by kernel_rfl
theorem by54 : byO Try.prog 54 = some 8:=by kernel_rfl
theorem ze54 : zeroO Try.prog 54 = some [.map none]:=by kernel_rfl
theorem ag54 : aggO Try.prog 54 = some false:=by kernel_rfl
theorem el54 : elO Try.prog 54 = none:=by kernel_rfl
theorem mo54 : mapO Try.prog 54 = some (9,3):=by kernel_rfl
theorem zv3 : zvO Try.prog 3 = some (.int .i64 0):=by kernel_rfl
theorem ik9 : intO Try.prog 9 = none:=by kernel_rfl
theorem st54 : strO Try.prog 54 = false:=by kernel_rfl
theorem u854 : u8O Try.prog 54 = false:=by kernel_rfl
theorem em54 : emptyO Try.prog 54 = some (.sl 1 []):=by kernel_rfl
theorem sz55 : szO Try.prog 55 = some 1:=by kernel_rfl
theorem by55 : byO Try.prog 55 = some 24:=by kernel_rfl
theorem ze55 : zeroO Try.prog 55 = some [.slice none 0 0]:=by kernel_rfl
theorem ag55 : aggO Try.prog 55 = some false:=by kernel_rfl
theorem el55 : elO Try.prog 55 = some 65:=by kernel_rfl
theorem st55 : strO Try.prog 55 = false:=by kernel_rfl
theorem u855 : u8O Try.prog 55 = false:=by kernel_rfl
theorem em55 : emptyO Try.prog 55 = some (.sl 1 []):=by kernel_rfl
theorem sz56 : szO Try.prog 56 = some 3:=by kernel_rfl
theorem by56 : byO Try.prog 56 = some 40:=by kernel_rfl
theorem ze56 : zeroO Try.prog 56 = some [.nilFunc,.map none,.slice none 0 0]:=by kernel_rfl
theorem ag56 : aggO Try.prog 56 = some true:=by kernel_rfl
theorem el56 : elO Try.prog 56 = none:=by kernel_rfl
theorem st56 : strO Try.prog 56 = false:=by kernel_rfl
theorem u856 : u8O Try.prog 56 = false:=by kernel_rfl
theorem em56 : emptyO Try.prog 56 = some (.sl 3 []):=by kernel_rfl
theorem fd56_0 : fldO Try.prog 56 0 = some (0,26):=by kernel_rfl
theorem fd56_1 : fldO Try.prog 56 1 = some (1,54):=by kernel_rfl
theorem fd56_2 : fldO Try.prog 56 2 = some (2,55):=by kernel_rfl
theorem pl56 : plO Try.prog 56 = some [(0,1),(1,1),(2,1)]:=by kernel_rfl
theorem sz57 : szO Try.prog 57 = some 3:=by kernel_rfl
theorem by57 : byO Try.prog 57 = some 40:=by kernel_rfl
theorem ze57 : zeroO Try.prog 57 = some [.nilFunc,.map none,.slice none 0 0]:=by kernel_rfl
theorem ag57 : aggO Try.prog 57 = some true:=by kernel_rfl
theorem el57 : elO Try.prog 57 = none:=by kernel_rfl
theorem st57 : strO Try.prog 57 = false:=by kernel_rfl
theorem u857 : u8O Try.prog 57 = false:=by kernel_rfl
theorem em57 : emptyO Try.prog 57 = some (.sl 3 []):=by kernel_rfl
theorem fd57_0 : fldO Try.prog 57 0 = some (0,26):=by kernel_rfl
theorem fd57_1 : fldO Try.prog 57 1 = some (1,54):=by kernel_rfl
theorem fd57_2 : fldO Try.prog 57 2 = some (2,55):=by kernel_rfl
theorem pl57 : plO Try.prog 57 = some [(0,1),(1,1),(2,1)]:=by kernel_rfl
theorem sz59 : szO Try.prog 59 = some 1:=by kernel_rfl
theorem by59 : byO Try.prog 59 = some 24:=by kernel_rfl
theorem ze59 : zeroO Try.prog 59 = some [.slice none 0 0]:=by kernel_rfl
theorem ag59 : aggO Try.prog 59 = some false:=by kernel_rfl
theorem el59 : elO Try.prog 59 = some 3:=by kernel_rfl
theorem st59 : strO Try.prog 59 = false:=by kernel_rfl
theorem u859 : u8O Try.prog 59 = false:=by kernel_rfl
theorem em59 : emptyO Try.prog 59 = some (.sl 1 []):=by kernel_rfl
theorem sz60 : szO Try.prog 60 = some 2:=by kernel_rfl
theorem by60 : byO Try.prog 60 = some 32:=by kernel_rfl
theorem ze60 : zeroO Try.prog 60 = some [.bool false,.slice none 0 0]:=by kernel_rfl
theorem ag60 : aggO Try.prog 60 = some true:=by kernel_rfl
theorem el60 : elO Try.prog 60 = none:=by kernel_rfl
theorem st60 : strO Try.prog 60 = false:=by kernel_rfl
theorem u860 : u8O Try.prog 60 = false:=by kernel_rfl
theorem em60 : emptyO Try.prog 60 = some (.sl 2 []):=by kernel_rfl
theorem fd60_0 : fldO Try.prog 60 0 = some (0,4):=by kernel_rfl
theorem fd60_1 : fldO Try.prog 60 1 = some (1,59):=by kernel_rfl
theorem pl60 : plO Try.prog 60 = some [(0,1),(1,1)]:=by kernel_rfl
theorem sz61 : szO Try.prog 61 = some 2:=by kernel_rfl
theorem by61 : byO Try.prog 61 = some 32:=by kernel_rfl
theorem ze61 : zeroO Try.prog 61 = some [.bool false,.slice none 0 0]:=by kernel_rfl
theorem ag61 : aggO Try.prog 61 = some true:=by kernel_rfl
theorem el61 : elO Try.prog 61 = none:=by kernel_rfl
theorem st61 : strO Try.prog 61 = false:=by kernel_rfl
theorem u861 : u8O Try.prog 61 = false:=by kernel_rfl
theorem em61 : emptyO Try.prog 61 = some (.sl 2 []):=by kernel_rfl
theorem fd61_0 : fldO Try.prog 61 0 = some (0,4):=by kernel_rfl
theorem fd61_1 : fldO Try.prog 61 1 = some (1,59):=by kernel_rfl
theorem pl61 : plO Try.prog 61 = some [(0,1),(1,1)]:=by kernel_rfl
theorem sz64 : szO Try.prog 64 = some 4:=by kernel_rfl
theorem by64 : byO Try.prog 64 = some 40:=by kernel_rfl
theorem ze64 : zeroO Try.prog 64 = some [.string ByteArray.empty,.int .i64 0,.int .i64 0,.bool false]:=by kernel_rfl
theorem ag64 : aggO Try.prog 64 = some true:=by kernel_rfl
theorem el64 : elO Try.prog 64 = none:=by kernel_rfl
theorem st64 : strO Try.prog 64 = false:=by kernel_rfl
theorem u864 : u8O Try.prog 64 = false:=by kernel_rfl
theorem em64 : emptyO Try.prog 64 = some (.sl 4 []):=by kernel_rfl
theorem fd64_0 : fldO Try.prog 64 0 = some (0,9):=by kernel_rfl
theorem fd64_1 : fldO Try.prog 64 1 = some (1,3):=by kernel_rfl
theorem fd64_2 : fldO Try.prog 64 2 = some (2,3):=by kernel_rfl
theorem fd64_3 : fldO Try.prog 64 3 = some (3,4):=by kernel_rfl
theorem pl64 : plO Try.prog 64 = some [(0,1),(1,1),(2,1),(3,1)]:=by kernel_rfl
theorem sz65 : szO Try.prog 65 = some 4:=by kernel_rfl
theorem by65 : byO Try.prog 65 = some 40:=by kernel_rfl
theorem ze65 : zeroO Try.prog 65 = some [.string ByteArray.empty,.int .i64 0,.int .i64 0,.bool false]:=by kernel_rfl
theorem ag65 : aggO Try.prog 65 = some true:=by kernel_rfl
theorem el65 : elO Try.prog 65 = none:=by kernel_rfl
theorem st65 : strO Try.prog 65 = false:=by kernel_rfl
theorem u865 : u8O Try.prog 65 = false:=by kernel_rfl
theorem em65 : emptyO Try.prog 65 = some (.sl 4 []):=by kernel_rfl
theorem fd65_0 : fldO Try.prog 65 0 = some (0,9):=by kernel_rfl
theorem fd65_1 : fldO Try.prog 65 1 = some (1,3):=by kernel_rfl
theorem fd65_2 : fldO Try.prog 65 2 = some (2,3):=by kernel_rfl
theorem fd65_3 : fldO Try.prog 65 3 = some (3,4):=by kernel_rfl
theorem pl65 : plO Try.prog 65 = some [(0,1),(1,1),(2,1),(3,1)]:=by kernel_rfl
theorem sz75 : szO Try.prog 75 = some 1:=by kernel_rfl
theorem by75 : byO Try.prog 75 = some 24:=by kernel_rfl
theorem ze75 : zeroO Try.prog 75 = some [.slice none 0 0]:=by kernel_rfl
theorem ag75 : aggO Try.prog 75 = some false:=by kernel_rfl
theorem el75 : elO Try.prog 75 = some 5:=by kernel_rfl
theorem st75 : strO Try.prog 75 = false:=by kernel_rfl
theorem u875 : u8O Try.prog 75 = true:=by kernel_rfl
theorem em75 : emptyO Try.prog 75 = some (.sl 1 []):=by kernel_rfl
theorem sz76 : szO Try.prog 76 = some 1:=by kernel_rfl
theorem by76 : byO Try.prog 76 = some 24:=by kernel_rfl
theorem ze76 : zeroO Try.prog 76 = some [.slice none 0 0]:=by kernel_rfl
theorem ag76 : aggO Try.prog 76 = some false:=by kernel_rfl
theorem el76 : elO Try.prog 76 = some 4:=by kernel_rfl
theorem st76 : strO Try.prog 76 = false:=by kernel_rfl
theorem u876 : u8O Try.prog 76 = false:=by kernel_rfl
theorem em76 : emptyO Try.prog 76 = some (.sl 1 []):=by kernel_rfl
theorem sz93 : szO Try.prog 93 = some 1:=by kernel_rfl
theorem by93 : byO Try.prog 93 = some 4:=by kernel_rfl
theorem ze93 : zeroO Try.prog 93 = some [.int .u32 0]:=by kernel_rfl
theorem ag93 : aggO Try.prog 93 = some false:=by kernel_rfl
theorem el93 : elO Try.prog 93 = none:=by kernel_rfl
theorem in93 : intO Try.prog 93 = some .u32:=by kernel_rfl
theorem st93 : strO Try.prog 93 = false:=by kernel_rfl
theorem u893 : u8O Try.prog 93 = false:=by kernel_rfl
theorem em93 : emptyO Try.prog 93 = some (.ints .u32 []):=by kernel_rfl
theorem sz97 : szO Try.prog 97 = some 1:=by kernel_rfl
theorem by97 : byO Try.prog 97 = some 8:=by kernel_rfl
theorem ze97 : zeroO Try.prog 97 = some [.pointer none]:=by kernel_rfl
theorem ag97 : aggO Try.prog 97 = some false:=by kernel_rfl
theorem el97 : elO Try.prog 97 = none:=by kernel_rfl
theorem st97 : strO Try.prog 97 = false:=by kernel_rfl
theorem u897 : u8O Try.prog 97 = false:=by kernel_rfl
theorem em97 : emptyO Try.prog 97 = some (.sl 1 []):=by kernel_rfl
attribute [go_sem] sz2 by2 ze2 ag2 el2 in2 st2 u82 em2 Try.underlying2 sz3 by3 ze3 ag3 el3 in3 st3 u83 em3 Try.underlying3 sz4 by4 ze4 ag4 el4 st4 u84 em4 Try.underlying4 sz5 by5 ze5 ag5 el5 in5 st5 u85 em5 Try.underlying5 sz9 by9 ze9 ag9 el9 st9 u89 em9 Try.underlying9 sz12 by12 ze12 ag12 el12 in12 st12 u812 em12 Try.underlying12 sz13 by13 ze13 ag13 el13 st13 u813 em13 fd13_0 fd13_1 pl13 Try.underlying13 sz21 by21 ze21 ag21 el21 in21 st21 u821 em21 Try.underlying21 sz22 by22 ze22 ag22 el22 st22 u822 em22 Try.underlying22 sz24 by24 ze24 ag24 el24 st24 u824 em24 Try.underlying24 sz27 by27 ze27 ag27 el27 st27 u827 em27 fd27_0 fd27_1 pl27 Try.underlying27 sz28 by28 ze28 ag28 el28 st28 u828 em28 fd28_0 fd28_1 pl28 Try.underlying28 sz31 by31 ze31 ag31 el31 in31 st31 u831 em31 Try.underlying31 sz39 by39 ze39 ag39 el39 st39 u839 em39 Try.underlying39 sz42 by42 ze42 ag42 el42 st42 u842 em42 fd42_0 fd42_1 fd42_2 fd42_3 pl42 Try.underlying42 sz43 by43 ze43 ag43 el43 st43 u843 em43 fd43_0 fd43_1 fd43_2 fd43_3 pl43 Try.underlying43 sz47 by47 ze47 ag47 el47 st47 u847 em47 fd47_0 fd47_1 pl47 Try.underlying47 sz48 by48 ze48 ag48 el48 st48 u848 em48 fd48_0 fd48_1 pl48 Try.underlying48 sz51 by51 ze51 ag51 el51 st51 u851 em51 Try.underlying51 sz54 by54 ze54 ag54 el54 mo54 zv3 ik9 st54 u854 em54 Try.underlying54 sz55 by55 ze55 ag55 el55 st55 u855 em55 Try.underlying55 sz56 by56 ze56 ag56 el56 st56 u856 em56 fd56_0 fd56_1 fd56_2 pl56 Try.underlying56 sz57 by57 ze57 ag57 el57 st57 u857 em57 fd57_0 fd57_1 fd57_2 pl57 Try.underlying57 sz59 by59 ze59 ag59 el59 st59 u859 em59 Try.underlying59 sz60 by60 ze60 ag60 el60 st60 u860 em60 fd60_0 fd60_1 pl60 Try.underlying60 sz61 by61 ze61 ag61 el61 st61 u861 em61 fd61_0 fd61_1 pl61 Try.underlying61 sz64 by64 ze64 ag64 el64 st64 u864 em64 fd64_0 fd64_1 fd64_2 fd64_3 pl64 Try.underlying64 sz65 by65 ze65 ag65 el65 st65 u865 em65 fd65_0 fd65_1 fd65_2 fd65_3 pl65 Try.underlying65 sz75 by75 ze75 ag75 el75 st75 u875 em75 Try.underlying75 sz76 by76 ze76 ag76 el76 st76 u876 em76 Try.underlying76 sz93 by93 ze93 ag93 el93 in93 st93 u893 em93 Try.underlying93 sz97 by97 ze97 ag97 el97 st97 u897 em97 Try.underlying97
end Go.Proofs.Ytekigfhikikgaaa

namespace Go.Proofs.NatL
set_option linter.unusedSimpArgs false
set_option linter.unusedVariables false

def trimL (xs : List Int) : List Int:=(xs.reverse.dropWhile (· == 0)).reverse

theorem trimL_snoc (xs : List Int) (x : Int) : trimL (xs ++ [x]) = if x = 0 then trimL xs else xs ++ [x]:=by
 unfold trimL
 by_cases h : x = 0 <;> simp [h]

theorem split_last (xs : List Int) (h : 0 < xs.length) : xs = xs.take (xs.length - 1) ++ [xs.getD (xs.length - 1) 0]:=by
 have h1 : xs.getD (xs.length - 1) 0 = xs[xs.length - 1]:=by simp [List.getD_eq_getElem?_getD,List.getElem?_eq_getElem (show xs.length - 1 < xs.length by omega)]
 rw [h1,← List.take_succ_eq_append_getElem (by omega)]
 rw [show xs.length - 1 + 1 = xs.length by omega,List.take_length]

theorem trimL_drop (xs : List Int) (h : 0 < xs.length) (h0 : xs.getD (xs.length - 1) 0 = 0) : trimL (xs.take (xs.length - 1)) = trimL xs:=by
 conv=>rhs; rw [split_last xs h,trimL_snoc,if_pos h0]

theorem trimL_stop (xs : List Int) (h : xs.length = 0 ∨ xs.getD (xs.length - 1) 0 ≠ 0) : trimL xs = xs:=by
 by_cases h0 : xs.length = 0
 ·have : xs = []:=List.eq_nil_of_length_eq_zero h0
  subst this; rfl
 ·rcases h with h | h
  ·exact absurd h h0
  ·conv=>lhs; rw [split_last xs (by omega),trimL_snoc,if_neg h]
   exact (split_last xs (by omega)).symm

def V (B : Nat) : List Int → Nat
 | []=>0
 | x :: xs=>x.toNat + B * V B xs

def InB (B : Nat) (xs : List Int) : Prop:=∀ x ∈ xs,0 ≤ x ∧ x < B

def dgF (B : Nat) : Nat → Nat → List Int
 | 0,_=>[]
 | f + 1,n=>if n = 0 then [] else ((n % B : Nat) : Int) :: dgF B f (n / B)
def dg (B n : Nat) : List Int:=dgF B n n

theorem V_append (B : Nat) (xs ys : List Int) : V B (xs ++ ys) = V B xs + B ^ xs.length * V B ys:=by
 induction xs with
 | nil=>simp [V]
 | cons x xs ih=>simp only [List.cons_append,V,ih,List.length_cons,Nat.pow_succ]; rw [Nat.mul_add,Nat.add_assoc,← Nat.mul_assoc,Nat.mul_comm B (B ^ xs.length)]

theorem V_snoc (B : Nat) (xs : List Int) (x : Int) : V B (xs ++ [x]) = V B xs + B ^ xs.length * x.toNat:=by
 rw [V_append]; simp [V]

theorem V_lt (B : Nat) (hB : 0 < B) (xs : List Int) (h : InB B xs) : V B xs < B ^ xs.length:=by
 induction xs with
 | nil=>simp [V]
 | cons x xs ih =>
  have h1:=h x (List.mem_cons_self ..)
  have h2:=ih fun y hy=>h y (List.mem_cons_of_mem _ hy)
  simp only [V,List.length_cons,Nat.pow_succ]
  have h3 : x.toNat < B:=by omega
  have h4 : B * V B xs + B ≤ B * B ^ xs.length:=by
   have : B * (V B xs + 1) ≤ B * B ^ xs.length:=Nat.mul_le_mul_left _ h2
   rwa [Nat.mul_add,Nat.mul_one] at this
  rw [Nat.mul_comm (B ^ xs.length) B]
  omega

theorem dgF_fuel (B : Nat) (hB : 2 ≤ B) : ∀ f n,n ≤ f → dgF B f n = dgF B n n:=by
 intro f
 induction f using Nat.strongRecOn with
 | _ f ih =>
  intro n hn
  match f,n with
  | 0,0=>rfl
  | f + 1,0=>simp [dgF]
  | f + 1,n + 1 =>
   simp only [dgF,Nat.succ_ne_zero,if_false,Nat.add_eq_zero_iff,Nat.one_ne_zero,and_false]
   have hlt : (n + 1) / B ≤ n:=by
    have : (n + 1) / B < n + 1:=Nat.div_lt_self (by omega) (by omega)
    omega
   rw [ih f (by omega) _ (by omega)]
   by_cases hnf : n = f
   ·subst hnf
    rw [ih n (by omega) _ hlt]
   ·rw [ih n (by omega) _ hlt]

theorem dg_zero (B : Nat) : dg B 0 = []:=rfl

theorem dg_pos (B n : Nat) (hB : 2 ≤ B) (hn : 0 < n) : dg B n = ((n % B : Nat) : Int) :: dg B (n / B):=by
 obtain ⟨m,rfl⟩ : ∃ m,n = m + 1:=⟨n - 1,by omega⟩
 have h : dg B (m + 1) = (((m + 1) % B : Nat) : Int) :: dgF B m ((m + 1) / B):=by simp [dg,dgF]
 rw [h]
 congr 1
 have hlt : (m + 1) / B ≤ m:=by
  have : (m + 1) / B < m + 1:=Nat.div_lt_self (by omega) (by omega)
  omega
 exact dgF_fuel B hB m _ hlt

theorem V_dg (B : Nat) (hB : 2 ≤ B) (n : Nat) : V B (dg B n) = n:=by
 induction n using Nat.strongRecOn with
 | _ n ih =>
  by_cases hn : n = 0
  ·subst hn; rfl
  ·rw [dg_pos B n hB (by omega),V,ih _ (Nat.div_lt_self (by omega) (by omega))]
   simp only [Int.toNat_natCast]
   exact Nat.mod_add_div n B

theorem InB_dg (B : Nat) (hB : 2 ≤ B) (n : Nat) : InB B (dg B n):=by
 induction n using Nat.strongRecOn with
 | _ n ih =>
  by_cases hn : n = 0
  ·subst hn; intro x hx; cases hx
  ·rw [dg_pos B n hB (by omega)]
   intro x hx
   rcases List.mem_cons.1 hx with rfl | hx
   ·have:=Nat.mod_lt n (show 0 < B by omega); omega
   ·exact ih _ (Nat.div_lt_self (by omega) (by omega)) x hx

def Trd (xs : List Int) : Prop:=xs.length = 0 ∨ xs.getD (xs.length - 1) 0 ≠ 0

theorem trd_cons (x : Int) (xs : List Int) (h : Trd xs) (hx : xs = [] → x ≠ 0) : Trd (x :: xs):=by
 right
 cases xs with
 | nil=>simpa using hx rfl
 | cons y ys =>
  rcases h with h | h
  ·simp at h
  ·simpa using h

theorem trd_tail (x : Int) (xs : List Int) (h : Trd (x :: xs)) : Trd xs:=by
 cases xs with
 | nil=>left; rfl
 | cons y ys =>
  right
  rcases h with h | h
  ·simp at h
  ·simpa using h

theorem dg_trd (B : Nat) (hB : 2 ≤ B) (n : Nat) : Trd (dg B n):=by
 induction n using Nat.strongRecOn with
 | _ n ih =>
  by_cases hn : n = 0
  ·subst hn; left; rfl
  ·rw [dg_pos B n hB (by omega)]
   refine trd_cons _ _ (ih _ (Nat.div_lt_self (by omega) (by omega))) fun he=>?_
   have h0 : n / B = 0:=by
    by_cases h : n / B = 0
    ·exact h
    ·rw [dg_pos B _ hB (Nat.pos_of_ne_zero h)] at he; cases he
   have : n % B = n:=Nat.mod_eq_of_lt (by rcases Nat.lt_or_ge n B with h | h; { exact h }; have:=Nat.div_pos h (by omega); omega)
   rw [this]; omega

theorem dg_V (B : Nat) (hB : 2 ≤ B) : ∀ xs : List Int,InB B xs → Trd xs → dg B (V B xs) = xs
 | [],_,_=>rfl
 | x :: xs,h,ht=>by
  have h1:=h x (List.mem_cons_self ..)
  have h2 : InB B xs:=fun y hy=>h y (List.mem_cons_of_mem _ hy)
  have ih:=dg_V B hB xs h2 (trd_tail x xs ht)
  have hpos : 0 < V B (x :: xs):=by
   rcases Nat.eq_zero_or_pos (V B (x :: xs)) with h0 | h0
   ·exfalso
    simp only [V] at h0
    have hx0 : x = 0:=by omega
    have hv0 : V B xs = 0:=by
     have : B * V B xs = 0:=by omega
     rcases Nat.mul_eq_zero.1 this with h | h
     ·omega
     ·exact h
    rw [hv0] at ih
    have hxs : xs = []:=ih.symm
    subst hxs
    rcases ht with ht | ht
    ·simp at ht
    ·simp at ht; exact ht hx0
   ·exact h0
  rw [dg_pos B _ hB hpos]
  have hm : V B (x :: xs) % B = x.toNat:=by
   simp only [V]
   rw [Nat.add_mul_mod_self_left]
   exact Nat.mod_eq_of_lt (by omega)
  have hd : V B (x :: xs) / B = V B xs:=by
   simp only [V]
   rw [Nat.add_mul_div_left _ _ (by omega),Nat.div_eq_of_lt (by omega)]; simp
  rw [hm,hd,ih]
  congr 1
  omega

theorem V_trimL (B : Nat) (xs : List Int) : V B (trimL xs) = V B xs:=by
 generalize hn : xs.length = n
 induction n generalizing xs with
 | zero=>have : xs = []:=List.eq_nil_of_length_eq_zero hn; subst this; rfl
 | succ n ih =>
  rw [split_last xs (by omega),trimL_snoc]
  split
  ·rename_i h
   rw [ih _ (by simp; omega),V_snoc,h]; simp
  ·rfl

theorem trimL_trd (xs : List Int) : Trd (trimL xs):=by
 generalize hn : xs.length = n
 induction n generalizing xs with
 | zero=>have : xs = []:=List.eq_nil_of_length_eq_zero hn; subst this; left; rfl
 | succ n ih =>
  rw [split_last xs (by omega),trimL_snoc]
  split
  ·exact ih _ (by simp; omega)
  ·rename_i h; right; simpa using h

theorem trimL_mem (xs : List Int) : ∀ x ∈ trimL xs,x ∈ xs:=by
 intro x hx
 unfold trimL at hx
 have:=(List.dropWhile_sublist (l:=xs.reverse) (· == 0)).mem (List.mem_reverse.1 hx)
 exact List.mem_reverse.1 this

theorem trimL_eq (B : Nat) (hB : 2 ≤ B) (xs : List Int) (h : InB B xs) : trimL xs = dg B (V B xs):=by
 rw [← V_trimL B xs,dg_V B hB _ (fun x hx=>h x (trimL_mem xs x hx)) (trimL_trd xs)]

end Go.Proofs.NatL

namespace Go.Proofs.NatL
set_option linter.unusedSimpArgs false
set_option linter.unusedVariables false

theorem getD_eq (xs : List Int) (i : Nat) (h : i < xs.length) : xs.getD i 0 = xs[i]:=by simp [List.getD_eq_getElem?_getD,List.getElem?_eq_getElem h]

theorem InB_getD {B : Nat} (hB : 0 < B) {xs : List Int} (h : InB B xs) (i : Nat) : 0 ≤ xs.getD i 0 ∧ xs.getD i 0 < B:=by
 by_cases hi : i < xs.length
 ·rw [getD_eq xs i hi]; exact h _ (List.getElem_mem hi)
 ·rw [List.getD_eq_getElem?_getD,List.getElem?_eq_none (by omega)]; simp; omega

theorem V_drop (B : Nat) (xs : List Int) (i : Nat) (h : i < xs.length) : V B (xs.drop i) = (xs.getD i 0).toNat + B * V B (xs.drop (i + 1)):=by
 rw [List.drop_eq_getElem_cons h,V,getD_eq xs i h]

theorem InB_take {B : Nat} {xs : List Int} (h : InB B xs) (i : Nat) : InB B (xs.take i):=fun x hx=>h x (List.mem_of_mem_take hx)
theorem InB_snoc {B : Nat} {xs : List Int} (h : InB B xs) {x : Int} (h0 : 0 ≤ x) (h1 : x < B) : InB B (xs ++ [x]):=by
 intro y hy
 rcases List.mem_append.1 hy with hy | hy
 ·exact h y hy
 ·simp at hy; subst hy; exact ⟨h0,h1⟩
theorem InB_set {B : Nat} {xs : List Int} (h : InB B xs) (i : Nat) {x : Int} (h0 : 0 ≤ x) (h1 : x < B) : InB B (xs.set i x):=by
 intro y hy
 rcases List.mem_or_eq_of_mem_set hy with hy | rfl
 ·exact h y hy
 ·exact ⟨h0,h1⟩
theorem InB_nil (B : Nat) : InB B []:=fun _ hx=>by cases hx
theorem InB_replicate {B : Nat} (hB : 0 < B) (n : Nat) : InB B (List.replicate n 0):=fun x hx=>by
 have:=List.eq_of_mem_replicate hx; subst this; exact ⟨by omega,by omega⟩
theorem dg_len_le {B : Nat} (hB : 2 ≤ B) (n k : Nat) (h : n < B ^ k) : (dg B n).length ≤ k:=by
 induction k generalizing n with
 | zero=>simp at h; subst h; simp [dg_zero]
 | succ k ih =>
  by_cases hn : n = 0
  ·subst hn; simp [dg_zero]
  ·rw [dg_pos B n hB (by omega),List.length_cons]
   have:=ih (n / B) (by rw [Nat.div_lt_iff_lt_mul (by omega)]; rwa [← Nat.pow_succ])
   omega
theorem dg_len_gt {B : Nat} (hB : 2 ≤ B) (n k : Nat) (h : B ^ k ≤ n) : k < (dg B n).length:=by
 rcases Nat.lt_or_ge k (dg B n).length with h1 | h1
 ·exact h1
 ·exfalso
  have:=V_lt B (by omega) _ (InB_dg B hB n)
  rw [V_dg B hB] at this
  have h2 : B ^ (dg B n).length ≤ B ^ k:=Nat.pow_le_pow_right (by omega) h1
  omega

theorem InB_app {B : Nat} {xs ys : List Int} (h : InB B xs) (h2 : InB B ys) : InB B (xs ++ ys):=fun x hx=>by
 rcases List.mem_append.1 hx with hx | hx
 ·exact h x hx
 ·exact h2 x hx
end Go.Proofs.NatL

namespace Go.Proofs.NatL
set_option linter.unusedSimpArgs false
set_option linter.unusedVariables false
open Go.Abs

theorem shrI_lit (k : IntKind) (x : Int) (n : Nat) (h : n ≤ k.bits) : shrI k x (n : Int) = x / 2 ^ n:=by
 have : Nat.min ((n : Int)).toNat k.bits = n:=by simp [Nat.min_eq_left h]
 rw [shrI,this,Int.fdiv_eq_ediv_of_nonneg _ (by exact Int.le_of_lt (Int.pow_pos (by omega)))]
theorem shr32 (x : Int) : shrI .u64 x 32 = x / 4294967296:=shrI_lit .u64 x 32 (by decide)
end Go.Proofs.NatL

namespace Go.Proofs.NatL
set_option linter.unusedSimpArgs false
set_option linter.unusedVariables false
open Go.Abs

theorem tmod32 (n : Nat) : Int.tmod (n : Int) 32 = ((n % 32 : Nat) : Int):=by
 rw [Int.tmod_eq_emod_of_nonneg (by omega)]; omega
theorem tdiv32 (n : Nat) : Int.tdiv (n : Int) 32 = ((n / 32 : Nat) : Int):=by
 rw [Int.tdiv_eq_ediv_of_nonneg (by omega)]; omega

theorem short_step (B i d : Nat) (o xs : List Int) (r r' q x : Nat) (hi : i < xs.length) (hl : o.length = xs.length) (h : V B (o.drop (i + 1)) * d + r = V B (xs.drop (i + 1))) (hx : x = (xs.getD i 0).toNat) (hq : q * d + r' = r * B + x) :
  V B ((o.set i (q : Int)).drop i) * d + r' = V B (xs.drop i):=by
 rw [V_drop B xs i hi,V_drop B _ i (by simp; omega),List.drop_set_of_lt (by omega),← h,← hx]
 have e : (o.set i (q : Int)).getD i 0 = (q : Int):=by rw [getD_eq _ _ (by simp; omega)]; simp
 rw [e,Int.toNat_natCast,Nat.add_mul,Nat.mul_add,← Nat.mul_assoc]
 have e2 : B * r = r * B:=Nat.mul_comm ..
 omega

end Go.Proofs.NatL

namespace Go.Proofs.NatL
set_option linter.unusedSimpArgs false
set_option linter.unusedVariables false

structure Est (B : Nat) (Vu Vv U3 V2 u2 head v1 v2 : Nat) : Prop where
 ex : ∃ P ul vl,0 < P ∧ Vu = ul + P * U3 ∧ ul < P ∧ Vv = vl + P * V2 ∧ vl < P
 u : U3 = u2 + B * head
 v : V2 = v2 + B * v1
 ku2 : u2 < B
 kv2 : v2 < B
 kv1 : 0 < v1
 lt : Vu < B * Vv
 hd : head < v1 * B + B

end Go.Proofs.NatL

namespace Go.Proofs.NatL
set_option linter.unusedSimpArgs false
set_option linter.unusedVariables false

end Go.Proofs.NatL

namespace Go.Proofs.NatL
set_option linter.unusedSimpArgs false
set_option linter.unusedVariables false

end Go.Proofs.NatL

namespace Go.Proofs.NatL
set_option linter.unusedSimpArgs false
set_option linter.unusedVariables false

theorem dg_head (n : Nat) : (dg 65536 n).getD 0 0 = ((n % 65536 : Nat) : Int):=by
 rcases Nat.eq_zero_or_pos n with h | h
 ·subst h; rfl
 ·rw [dg_pos _ _ (by omega) h]; rfl
theorem tmod2 (n : Nat) : Int.tmod (n : Int) 2 = ((n % 2 : Nat) : Int):=by
 rw [Int.tmod_eq_emod_of_nonneg (Int.natCast_nonneg _)]; omega
theorem dg_len_pos (B n : Nat) (hB : 2 ≤ B) : 0 < (dg B n).length ↔ 0 < n:=by
 constructor
 ·intro h
  rcases Nat.eq_zero_or_pos n with h1 | h1
  ·subst h1; simp [dg_zero] at h
  ·exact h1
 ·intro h
  rw [dg_pos _ _ hB h]; simp
theorem dg_len_mono {B : Nat} (hB : 2 ≤ B) {a b : Nat} (h : a ≤ b) : (dg B a).length ≤ (dg B b).length:=by
 have h1:=dg_len_gt hB b ((dg B b).length)
 rcases Nat.lt_or_ge b (B ^ (dg B b).length) with h2 | h2
 ·exact dg_len_le hB a _ (Nat.lt_of_le_of_lt h h2)
 ·have:=h1 h2; omega
theorem lt_of_len {B : Nat} (hB : 2 ≤ B) {a k : Nat} (h : (dg B a).length ≤ k) : a < B ^ k:=by
 rcases Nat.lt_or_ge a (B ^ k) with h2 | h2
 ·exact h2
 ·have:=dg_len_gt hB a k h2; omega
theorem V65 (n : Nat) : V 65536 (dg 65536 n) = n:=V_dg 65536 (by omega) n
theorem I65 (n : Nat) : InB 65536 (dg 65536 n) = True:=eq_true (InB_dg 65536 (by omega) n)
theorem T65 (n : Nat) : Trd (dg 65536 n) = True:=eq_true (dg_trd 65536 (by omega) n)
theorem V32 (n : Nat) : V 4294967296 (dg 4294967296 n) = n:=V_dg 4294967296 (by omega) n
theorem I32 (n : Nat) : InB 4294967296 (dg 4294967296 n) = True:=eq_true (InB_dg 4294967296 (by omega) n)
theorem T32 (n : Nat) : Trd (dg 4294967296 n) = True:=eq_true (dg_trd 4294967296 (by omega) n)
theorem I0 (B : Nat) : InB B [] = True:=eq_true (fun _ h=>by cases h)
theorem T0 : Trd [] = True:=eq_true (.inl rfl)
theorem V0 (B : Nat) : V B [] = 0:=rfl

end Go.Proofs.NatL

namespace Go.Proofs.NatL
set_option linter.unusedSimpArgs false
set_option linter.unusedVariables false

def bI (l : List Bool) : List Int:=l.map fun b=>if b then 1 else 0
def bB (xs : List Int) : List Bool:=xs.map fun x=>x == 1
theorem bI_len (l : List Bool) : (bI l).length = l.length:=by simp [bI]
theorem bI_in (l : List Bool) : InB 2 (bI l):=fun x hx=>by
 obtain ⟨b,_,rfl⟩:=List.mem_map.1 hx
 cases b <;> simp
theorem bI_snoc (l : List Bool) (b : Bool) : bI (l ++ [b]) = bI l ++ [if b then 1 else 0]:=by simp [bI]
theorem bI_app (l m : List Bool) : bI (l ++ m) = bI l ++ bI m:=by simp [bI]
def B2 (l : List Bool) : Nat:=V 2 (bI l)
def bs (n : Nat) : List Bool:=bB (dg 2 n)
theorem bit_step (l : List Bool) (m x c : Nat) (hl : l.length = m) (h : B2 l + 2 ^ m * x = c) : B2 (l ++ [decide (x % 2 = 1)]) + 2 ^ (m + 1) * (x / 2) = c:=by
 unfold B2 at *
 rw [bI_snoc,V_snoc,bI_len,hl,← h]
 have e : (if decide (x % 2 = 1) = true then (1 : Int) else 0).toNat = x % 2:=by
  rcases Nat.mod_two_eq_zero_or_one x with h | h <;> simp [h]
 rw [e,Nat.pow_succ,Nat.mul_assoc,Nat.add_assoc,← Nat.mul_add]
 congr 2
 omega

theorem group_step (l : List Bool) (m k : Nat) (hm : m < l.length) : B2 ((l.drop m).take (k + 1)) = 2 * B2 ((l.drop (m + 1)).take k) + (if l.getD m false then 1 else 0):=by
 unfold B2
 rw [List.drop_eq_getElem_cons hm,List.take_succ_cons]
 simp only [bI,List.map_cons,V,List.getD_eq_getElem?_getD,List.getElem?_eq_getElem hm,Option.getD_some]
 cases l[m] <;> simp <;> omega
theorem group_end (l : List Bool) (m k : Nat) (hm : l.length ≤ m) : B2 ((l.drop m).take k) = 0:=by
 rw [List.drop_eq_nil_of_le hm]; simp [B2,bI,V]
theorem B2_lt (l : List Bool) : B2 l < 2 ^ l.length:=by
 have:=V_lt 2 (by omega) _ (bI_in l)
 rwa [bI_len] at this
theorem digit_group (j : Nat) (o : List Int) (l : List Bool) (h : V 65536 o = B2 (l.take (16 * j))) (hl : o.length = j) (x : Nat) (hx : x = B2 ((l.drop (16 * j)).take 16)) (hj : 16 * j ≤ l.length) :
  V 65536 (o ++ [(x : Int)]) = B2 (l.take (16 * (j + 1))):=by
 rw [V_snoc,h,hl,Int.toNat_natCast,hx]
 unfold B2
 have e : l.take (16 * (j + 1)) = l.take (16 * j) ++ (l.drop (16 * j)).take 16:=by
  rw [show 16 * (j + 1) = 16 * j + 16 by omega,List.take_add]
 rw [e,bI_app,V_append,bI_len,List.length_take,Nat.min_eq_left hj,show (65536 : Nat) = 2 ^ 16 from rfl,← Nat.pow_mul]

end Go.Proofs.NatL

namespace Go.Proofs.NatL
set_option linter.unusedSimpArgs false
set_option linter.unusedVariables false

def rdv (b : Nat) (ds : List Int) : Nat:=ds.foldl (fun n d=>n * b + d.toNat) 0
theorem rdv_snoc (b : Nat) (ds : List Int) (d : Int) : rdv b (ds ++ [d]) = rdv b ds * b + d.toNat:=by simp [rdv,List.foldl_append]
theorem dg_len_two (b n : Nat) (hb : 2 ≤ b) (k : Nat) (h : n < 2 ^ k) : (dg b n).length ≤ k :=
 dg_len_le hb n k (Nat.lt_of_lt_of_le h (Nat.pow_le_pow_left hb k))

end Go.Proofs.NatL

namespace Go.Proofs.NatL
set_option linter.unusedSimpArgs false
set_option linter.unusedVariables false

theorem InB_one {B : Nat} {d : Int} (h0 : 0 ≤ d) (h1 : d < B) : InB B [d]:=fun x hx=>by rw [List.mem_singleton] at hx; subst hx; exact ⟨h0,h1⟩
end Go.Proofs.NatL

namespace Go.Proofs.Ytekigfhikikgaaa
set_option linter.unusedSimpArgs false
set_option linter.unusedVariables false
open Go.Abs Go.Proofs.NatL

theorem flt : FltOk Try.prog 28:=flt_of (e:=3) ⟨⟨_,_,Try.underlying28,rfl,rfl,rfl,rfl,rfl,rfl⟩,Try.underlying3,by kernel_rfl,by kernel_rfl⟩
def cf0 : Cfg:=⟨fun _=>none,[28],false,false⟩
theorem cf0_ok : TblOk Try.prog cf0:=⟨by simp only [cf0,List.mem_singleton,forall_eq]; exact flt,by simp [cf0]⟩
attribute [go_sem] cf0 addT mkCT norm nz nzL List.mem_singleton List.mem_cons true_or or_true
instance (xs : List Int) : Decidable (Trd xs):=inferInstanceAs (Decidable (_ ∨ _))

theorem At_ret (c i : Int) : Ret Try.prog 26 false [.inl (.i .i64 c),.inl (.i .i64 i)] (.g [.i .i64 c,.i .i64 i]):=by
 (refine q_H Try.func26 (fun F=>?_); simp only [q_z,q_y,Try.ntmps26,Try.results26])
 repeat' (first|with_reducible refine q_0 ?_|((with_reducible first|refine q_q cf0_ok fun K hK=>?_|refine q_r cf0_ok fun K hK=>?_);simp (maxSteps:=2000000) only [go_sem,↓reduceIte,reduceCtorEq,Nat.reduceLeDiff,Nat.reduceLT,Nat.reduceBEq,Nat.reduceAdd];(repeat1' with_reducible first|apply And.intro|intro _|(refine hK _ ?_;clear hK K))<;>(try (clear hK K;exact q_u)))|(with_reducible refine q_s ?_;(first|apply q_J|apply q_K|apply q_L|apply q_M|apply q_N|apply q_O)<;>try intro _))
 exact q_A rfl

def atCT : CT:=mkCT [] true fun l K=>match l with
 | [.inl (.i .i64 c),.inl (.i .i64 i)]=>K (.g [.i .i64 c,.i .i64 i])
 | _=>False
def cf1 : Cfg:=cf0
theorem cf1_ok : TblOk Try.prog cf1:=cf0_ok
def cf2 : Cfg:=addT 26 atCT cf1
theorem cf2_ok : TblOk Try.prog cf2:=q_I cf1_ok Try.func26 fun l K h=>by
 split at h
 ·exact ⟨_,(At_ret _ _).plain rfl,h⟩
 ·exact h.elim
attribute [go_sem] cf1 cf2 atCT
def cf3 : Cfg:=cf2
theorem cf3_ok : TblOk Try.prog cf3:=cf2_ok
attribute [go_sem] cf3
def okN (xs : List Int) : Bool:=decide (xs.length ≤ 600 ∧ Trd xs)

def cf4 : Cfg:=cf3
theorem cf4_ok : TblOk Try.prog cf4:=cf3_ok
def cf5 : Cfg:=cf4
theorem cf5_ok : TblOk Try.prog cf5:=cf4_ok
attribute [go_sem] cf4 cf5
def cf6 : Cfg:=cf5
theorem cf6_ok : TblOk Try.prog cf6:=cf5_ok
attribute [go_sem] cf6
def cf8 : Cfg:=cf6
theorem cf8_ok : TblOk Try.prog cf8:=cf6_ok
attribute [go_sem] cf8
end Go.Proofs.Ytekigfhikikgaaa

namespace Go.Proofs.Ytekigfhikikgaaa
set_option linter.unusedSimpArgs false
set_option linter.unusedVariables false
open Go.Abs Go.Proofs.NatL
attribute [go_sem] cf0 addT mkCT norm nz nzL List.mem_singleton List.mem_cons true_or or_true cf1 cf2 atCT cf3 cf4 cf5 cf6 cf8
attribute [go_sem] shr32
end Go.Proofs.Ytekigfhikikgaaa

namespace Go.Proofs.Ytekigfhikikgaaa
set_option linter.unusedSimpArgs false
set_option linter.unusedVariables false
open Go.Abs Go.Proofs.NatL
attribute [go_sem] cf0 addT mkCT norm nz nzL List.mem_singleton List.mem_cons true_or or_true cf1 cf2 atCT cf3 cf4 cf5 cf6 cf8 shr32
attribute [go_sem] listT
end Go.Proofs.Ytekigfhikikgaaa

namespace Go.Proofs.Ytekigfhikikgaaa
set_option linter.unusedSimpArgs false
set_option linter.unusedVariables false
open Go.Abs Go.Proofs.NatL

def bl (n : Nat) : Nat:=if n = 0 then 0 else n.log2 + 1
end Go.Proofs.Ytekigfhikikgaaa

namespace Go.Proofs.Ytekigfhikikgaaa
set_option linter.unusedSimpArgs false
set_option linter.unusedVariables false
open Go.Abs Go.Proofs.NatL
attribute [go_sem] tmod32 tdiv32
end Go.Proofs.Ytekigfhikikgaaa

namespace Go.Proofs.Ytekigfhikikgaaa
set_option linter.unusedSimpArgs false
set_option linter.unusedVariables false
open Go.Abs Go.Proofs.NatL
attribute [go_sem] cf0 addT mkCT norm nz nzL List.mem_singleton List.mem_cons true_or or_true
set_option maxHeartbeats 400000 in
theorem rtrim_ret (xs : List Int) (hx : xs.length ≤ 16777216) : Ret Try.prog 39 false [.inl (.ints .i64 xs)] (.c (.ints .i64 (trimL xs))):=by
 (refine q_H Try.func39 (fun F=>?_); simp only [q_z,q_y,Try.ntmps39,Try.results39])
 repeat' (first|with_reducible refine q_0 ?_|((with_reducible first|refine q_q cf0_ok fun K hK=>?_|refine q_r cf0_ok fun K hK=>?_);simp (maxSteps:=2000000) only [go_sem,↓reduceIte,reduceCtorEq,Nat.reduceLeDiff,Nat.reduceLT,Nat.reduceBEq,Nat.reduceAdd];(repeat1' with_reducible first|apply And.intro|intro _|(refine hK _ ?_;clear hK K))<;>(try (clear hK K;exact q_u)))|(with_reducible refine q_s ?_;(first|apply q_J|apply q_K|apply q_L|apply q_M|apply q_N|apply q_O)<;>try intro _))
 refine q_G (ι:={ ys : List Int // trimL ys = trimL xs ∧ ys.length ≤ 16777216 }) (fun ys=>⟨21,[(0,.c (.ints .i64 ys.1))],⟨[],[],[]⟩,0⟩) (fun ys=>ys.1.length) ⟨xs,rfl,hx⟩ ?_ ?_
 ·exact q_D
 rintro ⟨ys,h1,h2⟩
 have e : 0 < (ys.length : Int) → ((ys.length : Int) - 1).toNat = ys.length - 1:=fun _=>by omega
 repeat' (first|with_reducible refine q_0 ?_|((with_reducible first|refine q_q cf0_ok fun K hK=>?_|refine q_r cf0_ok fun K hK=>?_);simp (maxSteps:=2000000) only [go_sem,↓reduceIte,reduceCtorEq,Nat.reduceLeDiff,Nat.reduceLT,Nat.reduceBEq,Nat.reduceAdd];(repeat1' with_reducible first|apply And.intro|intro _|(refine hK _ ?_;clear hK K))<;>(try (clear hK K;exact q_u)))|(with_reducible refine q_s ?_;(first|apply q_J|apply q_K|apply q_L|apply q_M|apply q_N|apply q_O)<;>try intro _))
 ·rename_i hp h0
  rw [e hp] at h0 ⊢
  refine q_F ⟨ys.take (ys.length - 1),by rw [trimL_drop ys (by omega) h0,h1],by simp; omega⟩ ?_ ?_
  ·exact q_D
  ·show (ys.take (ys.length - 1)).length < ys.length
   simp; omega
 ·rename_i hp h0
  rw [e hp] at h0
  exact q_A (by rw [← h1,trimL_stop ys (.inr h0)]; rfl)
 ·exact q_A (by rw [← h1,trimL_stop ys (.inl (by omega))]; rfl)

def rtrimCT : CT:=mkCT [.inl (some (.ints .i64 []))] false fun l K=>match l with
 | [.inl (.ints .i64 xs)]=>xs.length ≤ 16777216 ∧ K (.c (.ints .i64 (trimL xs)))
 | _=>False
def rf1 : Cfg:=addT 39 rtrimCT cf0
theorem rf1_ok : TblOk Try.prog rf1:=q_I cf0_ok Try.func39 fun l K h=>by
 split at h
 ·exact ⟨_,rtrim_ret _ h.1,h.2⟩
 ·exact h.elim
attribute [go_sem] rf1 rtrimCT
end Go.Proofs.Ytekigfhikikgaaa

namespace Go.Proofs.Ytekigfhikikgaaa
set_option linter.unusedSimpArgs false
set_option linter.unusedVariables false
open Go.Abs Go.Proofs.NatL
attribute [go_sem] cf0 addT mkCT norm nz nzL List.mem_singleton List.mem_cons true_or or_true rf1 rtrimCT
end Go.Proofs.Ytekigfhikikgaaa

namespace Go.Proofs.Ytekigfhikikgaaa
set_option linter.unusedSimpArgs false
set_option linter.unusedVariables false
open Go.Abs Go.Proofs.NatL

attribute [go_sem] decide_true decide_false
def ch1 : Cfg:=cf8
theorem ch1_ok : TblOk Try.prog ch1:=cf8_ok
def ch2 : Cfg:=ch1
theorem ch2_ok : TblOk Try.prog ch2:=ch1_ok
attribute [go_sem] ch1 ch2
def db1 : Cfg:=ch2
theorem db1_ok : TblOk Try.prog db1:=ch2_ok
def db2 : Cfg:=db1
theorem db2_ok : TblOk Try.prog db2:=db1_ok
def db3 : Cfg:=db2
theorem db3_ok : TblOk Try.prog db3:=db2_ok
def db4 : Cfg:=db3
theorem db4_ok : TblOk Try.prog db4:=db3_ok
def db6 : Cfg:=db4
theorem db6_ok : TblOk Try.prog db6:=db4_ok
attribute [go_sem] V65 I65 T65 V32 I32 T32 I0 T0 V0
def db7 : Cfg:=db6
theorem db7_ok : TblOk Try.prog db7:=db6_ok
def db8 : Cfg:=db7
theorem db8_ok : TblOk Try.prog db8:=db7_ok
def db9 : Cfg:=db8
theorem db9_ok : TblOk Try.prog db9:=db8_ok
def db10 : Cfg:=db9
theorem db10_ok : TblOk Try.prog db10:=db9_ok
def db12 : Cfg:=db10
theorem db12_ok : TblOk Try.prog db12:=db10_ok
def db13 : Cfg:=db12
theorem db13_ok : TblOk Try.prog db13:=db12_ok
attribute [go_sem] db1 db2 db3 db4 db6 db7 db8 db9 db10 db12 db13
end Go.Proofs.Ytekigfhikikgaaa

namespace Go.Proofs.Ytekigfhikikgaaa
set_option linter.unusedSimpArgs false
set_option linter.unusedVariables false
open Go.Abs Go.Proofs.NatL

theorem v1d : V 4294967296 [1] = 1:=rfl
attribute [go_sem] v1d V32 I32 T32 I0 T0 V0
end Go.Proofs.Ytekigfhikikgaaa

namespace Go.Proofs.Ytekigfhikikgaaa
set_option linter.unusedSimpArgs false
set_option linter.unusedVariables false
open Go.Abs Go.Proofs.NatL

set_option maxRecDepth 100000 in
set_option maxHeartbeats 1600000 in
theorem binary_ret (l : List Bool) (hl : l.length ≤ 16777216) : Ret Try.prog 33 false [.inl (.bools l)] (.c (.ints .i64 (dg 65536 (B2 l)))):=by
 (refine q_H Try.func33 (fun F=>?_); simp only [q_z,q_y,Try.ntmps33,Try.results33])
 repeat' (first|with_reducible refine q_0 ?_|((with_reducible first|refine q_q rf1_ok fun K hK=>?_|refine q_r rf1_ok fun K hK=>?_);simp (maxSteps:=2000000) only [go_sem,↓reduceIte,reduceCtorEq,Nat.reduceLeDiff,Nat.reduceLT,Nat.reduceBEq,Nat.reduceAdd];(repeat1' with_reducible first|apply And.intro|intro _|(refine hK _ ?_;clear hK K))<;>(try (clear hK K;exact q_u)))|(with_reducible refine q_s ?_;(first|apply q_J|apply q_K|apply q_L|apply q_M|apply q_N|apply q_O)<;>try intro _))
 refine q_G (ι:={ p : Nat × List Int // 16 * p.1 ≤ l.length + 15 ∧ p.2.length = p.1 ∧ InB 65536 p.2 ∧ V 65536 p.2 = B2 (l.take (16 * p.1)) }) (fun p=>⟨41,[(0,.c (.bools l)),(3,.own 0 0),(4,.c (.i .i64 ((16 * p.1.1 : Nat) : Int)))],⟨[],[(0,⟨0,3,1,.ints .i64 p.1.2⟩)],[]⟩,1⟩) (fun p=>l.length + 15 - 16 * p.1.1) ⟨(0,[]),by simp,rfl,InB_nil _,by simp [B2,bI,V]⟩ ?_ ?_
 ·exact q_D
 rintro ⟨⟨j,o⟩,g1,g2,g3,g4⟩
 simp only at g1 g2 g3 g4 ⊢
 repeat' (first|with_reducible refine q_0 ?_|((with_reducible first|refine q_q rf1_ok fun K hK=>?_|refine q_r rf1_ok fun K hK=>?_);simp (maxSteps:=2000000) only [go_sem,↓reduceIte,reduceCtorEq,Nat.reduceLeDiff,Nat.reduceLT,Nat.reduceBEq,Nat.reduceAdd];(repeat1' with_reducible first|apply And.intro|(intro _;try exact q_v)|(refine hK _ ?_;clear hK K))<;>(try (clear hK K;exact q_u)))|(with_reducible refine q_s ?_;(first|apply q_J|apply q_K|apply q_L|apply q_M|apply q_N|apply q_O)<;>try (intro _;try exact q_v)))
 ·rename_i hj
  refine q_G (ι:={ p : Nat × Nat // p.1 ≤ 16 ∧ p.2 = B2 ((l.drop (16 * j + p.1)).take (16 - p.1)) }) (fun p=>⟨41,[(0,.c (.bools l)),(3,.own 0 0),(4,.c (.i .i64 ((16 * j : Nat) : Int))),(5,.c (.i .i64 (p.1.2 : Nat))),(6,.c (.i .i64 ((p.1.1 : Int) - 1)))],⟨[],[(0,⟨0,3,1,.ints .i64 o⟩)],[]⟩,1⟩) (fun p=>p.1.1) ⟨(16,0),by simp,by simp [B2,bI,V]⟩ ?_ ?_
  ·exact q_D
  rintro ⟨⟨k,x⟩,q1,q2⟩
  simp only at q1 q2 ⊢
  have hx : x < 65536:=by
   rw [q2]
   refine Nat.lt_of_lt_of_le (B2_lt _) ?_
   have : (2 : Nat) ^ ((l.drop (16 * j + k)).take (16 - k)).length ≤ 2 ^ 16:=Nat.pow_le_pow_right (by omega) (by simp; omega)
   exact this
  have hnx : 0 < k → B2 ((l.drop (16 * j + (k - 1))).take (16 - (k - 1))) = 2 * x + (if l.getD (16 * j + (k - 1)) false then 1 else 0):=fun h=>by
   rcases Nat.lt_or_ge (16 * j + (k - 1)) l.length with h1 | h1
   ·rw [show 16 - (k - 1) = 16 - k + 1 by omega,group_step l _ _ h1,show 16 * j + (k - 1) + 1 = 16 * j + k by omega,← q2]
   ·rw [group_end l _ _ h1,q2,group_end l _ _ (by omega),List.getD_eq_getElem?_getD,List.getElem?_eq_none h1]; simp
  have e1 : 0 < k → (((16 * j : Nat) : Int) + ((k : Int) - 1)).toNat = 16 * j + (k - 1):=fun h=>by omega
  repeat' (first|with_reducible refine q_0 ?_|((with_reducible first|refine q_q rf1_ok fun K hK=>?_|refine q_r rf1_ok fun K hK=>?_);simp (maxSteps:=2000000) only [go_sem,↓reduceIte,reduceCtorEq,Nat.reduceLeDiff,Nat.reduceLT,Nat.reduceBEq,Nat.reduceAdd];(repeat1' with_reducible first|apply And.intro|(intro _;try exact q_v)|(refine hK _ ?_;clear hK K))<;>(try (clear hK K;exact q_u)))|(with_reducible refine q_s ?_;(first|apply q_J|apply q_K|apply q_L|apply q_M|apply q_N|apply q_O)<;>try (intro _;try exact q_v)))
  ·rename_i h1 h2 h3
   rw [e1 (by omega)] at h3
   have h4:=hnx (by omega)
   rw [h3,if_pos rfl] at h4
   refine q_F ⟨(k - 1,2 * x + 1),by simp only; omega,h4.symm⟩ ?_ (by simp only; omega)
   exact q_D
  ·rename_i h1 h2 h3
   rw [e1 (by omega)] at h3
   have h4:=hnx (by omega)
   rw [h3] at h4
   refine q_F ⟨(k - 1,2 * x),by simp only; omega,by simpa using h4.symm⟩ ?_ (by simp only; omega)
   exact q_D
  ·rename_i h1 h2
   have h4:=hnx (by omega)
   rw [List.getD_eq_getElem?_getD,List.getElem?_eq_none (by omega)] at h4
   refine q_F ⟨(k - 1,2 * x),by simp only; omega,by simpa using h4.symm⟩ ?_ (by simp only; omega)
   exact q_D
  ·rename_i h1
   have hk : k = 0:=by omega
   subst hk
   refine q_F ⟨(j + 1,o ++ [(x : Int)]),by simp only; omega,by simp [g2],InB_snoc g3 (by omega) (by omega),digit_group j o l g4 g2 x (by simpa using q2) (by omega)⟩ ?_ (by simp only; omega)
   exact q_D
 ·rename_i hj
  refine q_A ?_
  rw [List.take_of_length_le (by omega)] at g4
  simp only [resAV,q_y]
  rw [trimL_eq 65536 (by omega) _ g3,g4]

def binaryCT : CT:=mkCT [.inl (some (.bools []))] false fun l K=>match l with
 | [.inl (.bools l)]=>l.length ≤ 16777216 ∧ K (.c (.ints .i64 (dg 65536 (B2 l))))
 | _=>False
attribute [go_sem] binaryCT V65 I65 T65
end Go.Proofs.Ytekigfhikikgaaa

namespace Go.Proofs.Ytekigfhikikgaaa
set_option linter.unusedSimpArgs false
set_option linter.unusedVariables false
open Go.Abs Go.Proofs.NatL
theorem toNat2 : (2 : Int).toNat = 2:=rfl
attribute [go_sem] dg_head tmod2 toNat2 Bool.toNat_false Bool.toNat_true
set_option maxHeartbeats 800000 in
theorem halve_ret (xs : List Int) (d : Nat) (hx : xs.length ≤ 4194304) (bx : InB 65536 xs) (d0 : 0 < d) (d1 : d < 65536) :
  Ret Try.prog 38 false [.inl (.ints .i64 xs),.inl (.i .i64 d)] (.t [.inl (.ints .i64 (dg 65536 (V 65536 xs / d))),.inl (.i .i64 ((V 65536 xs % d : Nat) : Int))]):=by
 (refine q_H Try.func38 (fun F=>?_); simp only [q_z,q_y,Try.ntmps38,Try.results38])
 repeat' (first|with_reducible refine q_0 ?_|((with_reducible first|refine q_q rf1_ok fun K hK=>?_|refine q_r rf1_ok fun K hK=>?_);simp (maxSteps:=2000000) only [go_sem,↓reduceIte,reduceCtorEq,Nat.reduceLeDiff,Nat.reduceLT,Nat.reduceBEq,Nat.reduceAdd];(repeat1' with_reducible first|apply And.intro|intro _|(refine hK _ ?_;clear hK K))<;>(try (clear hK K;exact q_u)))|(with_reducible refine q_s ?_;(first|apply q_J|apply q_K|apply q_L|apply q_M|apply q_N|apply q_O)<;>try intro _))
 refine q_G (ι:={ p : Nat × List Int × Nat // p.1 ≤ xs.length ∧ p.2.1.length = xs.length ∧ InB 65536 p.2.1 ∧ p.2.2 < d ∧ V 65536 (p.2.1.drop p.1) * d + p.2.2 = V 65536 (xs.drop p.1) }) (fun p=>⟨38,[(0,.c (.ints .i64 xs)),(1,.c (.i .i64 d)),(6,.own 0 0),(7,.c (.i .i64 (p.1.2.2 : Nat))),(8,.c (.i .i64 ((p.1.1 : Int) - 1)))],⟨[],[(0,⟨0,3,1,.ints .i64 p.1.2.1⟩)],[]⟩,1⟩) (fun p=>p.1.1) ⟨(xs.length,List.replicate xs.length 0,0),by simp,by simp,InB_replicate (by omega) _,d0,by simp [V]⟩ ?_ ?_
 ·exact q_D
 rintro ⟨⟨k,o,r⟩,g1,g2,g3,g4,g5⟩
 simp only at g1 g2 g3 g4 g5 ⊢
 have b1:=InB_getD (by omega) bx ((k : Int) - 1).toNat
 obtain ⟨x,hxx⟩ : ∃ x : Nat,xs.getD ((k : Int) - 1).toNat 0 = x:=⟨(xs.getD ((k : Int) - 1).toNat 0).toNat,by omega⟩
 have hx2 : x < 65536:=by omega
 have hq : ((r : Int) * 65536 + xs.getD ((k : Int) - 1).toNat 0).tdiv (d : Int) = (((r * 65536 + x) / d : Nat) : Int):=by
  rw [hxx,Int.tdiv_eq_ediv_of_nonneg (by omega)]; simp
 have hr : ((r : Int) * 65536 + xs.getD ((k : Int) - 1).toNat 0).tmod (d : Int) = (((r * 65536 + x) % d : Nat) : Int):=by
  rw [hxx,Int.tmod_eq_emod_of_nonneg (by omega)]; simp
 have hlt : (r * 65536 + x) / d < 65536:=by
  rw [Nat.div_lt_iff_lt_mul d0]
  have h1 : (r + 1) * 65536 ≤ d * 65536:=Nat.mul_le_mul_right _ g4
  omega
 have hmod:=Nat.mod_lt (r * 65536 + x) d0
 have hdm:=Nat.div_add_mod (r * 65536 + x) d
 generalize (r * 65536 + x) / d = Q at *
 generalize (r * 65536 + x) % d = R at *
 repeat' (first|with_reducible refine q_0 ?_|((with_reducible first|refine q_q rf1_ok fun K hK=>?_|refine q_r rf1_ok fun K hK=>?_);simp (maxSteps:=2000000) only [go_sem,↓reduceIte,reduceCtorEq,Nat.reduceLeDiff,Nat.reduceLT,Nat.reduceBEq,Nat.reduceAdd];(repeat1' with_reducible first|apply And.intro|intro _|(refine hK _ ?_;clear hK K))<;>(try (clear hK K;exact q_u)))|(with_reducible refine q_s ?_;(first|apply q_J|apply q_K|apply q_L|apply q_M|apply q_N|apply q_O)<;>try intro _))
 ·rename_i ha
  have e : ((k : Int) - 1).toNat = k - 1:=by omega
  rw [hq,hr,e]
  rw [e] at hxx
  refine q_F ⟨(k - 1,o.set (k - 1) (Q : Int),R),by simp only; omega,by simp [g2],InB_set g3 _ (by omega) (by omega),hmod,?_⟩ ?_ ?_
  ·simp only
   refine short_step 65536 (k - 1) d o xs r _ _ x (by omega) g2 (by rw [show k - 1 + 1 = k by omega]; exact g5) (by rw [hxx]; simp) ?_
   rw [Nat.mul_comm]; exact hdm
  ·exact q_D
  ·show k - 1 < k
   omega
 ·rename_i ha
  have hk : k = 0:=by omega
  subst hk
  simp only [List.drop_zero] at g5
  refine q_A ?_
  simp only [resAV]
  rw [trimL_eq 65536 (by omega) _ g3,← g5]
  have h1 : (V 65536 o * d + r) / d = V 65536 o:=by rw [Nat.mul_comm,Nat.mul_add_div d0,Nat.div_eq_of_lt g4]; simp
  have h2 : (V 65536 o * d + r) % d = r:=by rw [Nat.mul_comm,Nat.mul_add_mod]; exact Nat.mod_eq_of_lt g4
  rw [h1,h2]

def halveCT : CT:=mkCT [.inl (some (.ints .i64 []))] false fun l K=>match l with
 | [.inl (.ints .i64 xs),.inl (.i .i64 d)]=>(xs.length ≤ 4194304 ∧ InB 65536 xs ∧ 0 < d ∧ d < 65536) ∧ K (.t [.inl (.ints .i64 (dg 65536 (V 65536 xs / d.toNat))),.inl (.i .i64 ((V 65536 xs % d.toNat : Nat) : Int))])
 | _=>False
def rg1 : Cfg:=addT 38 halveCT db13
theorem rg1_ok : TblOk Try.prog rg1:=q_I db13_ok Try.func38 fun l K h=>by
 split at h
 ·rename_i xs d
  obtain ⟨d,rfl⟩ : ∃ n : Nat,d = n:=⟨d.toNat,by omega⟩
  exact ⟨_,halve_ret _ d h.1.1 h.1.2.1 (by omega) (by omega),by simpa using h.2⟩
 ·exact h.elim
def rg2 : Cfg:=rg1
theorem rg2_ok : TblOk Try.prog rg2:=rg1_ok
attribute [go_sem] halveCT
def rg3 : Cfg:=rg2
theorem rg3_ok : TblOk Try.prog rg3:=rg2_ok
end Go.Proofs.Ytekigfhikikgaaa

namespace Go.Proofs.Ytekigfhikikgaaa
set_option linter.unusedSimpArgs false
set_option linter.unusedVariables false
open Go.Abs Go.Proofs.NatL

def tb23 : Cfg:=listT [(38,halveCT)] [28]
theorem tb23_ok : TblOk Try.prog tb23:=listE_ok (by simp only [List.mem_singleton,forall_eq]; exact flt) ⟨⟨rg1,rg1_ok,rfl⟩,trivial⟩
attribute [go_sem] tb23
set_option maxRecDepth 100000 in
set_option maxHeartbeats 1600000 in
theorem figures_ret (n b : Nat) (hn : (dg 65536 n).length ≤ 65536) (h1 : 2 ≤ b) (h2 : b ≤ 36) :
  Ret Try.prog 32 false [.inl (.ints .i64 (dg 65536 n)),.inl (.i .i64 b)] (.c (.ints .i64 (dg b n).reverse)):=by
 have hbn : (dg b n).length ≤ 1048576:=by
  obtain ⟨e,he⟩ : ∃ e : Nat,e = 65536:=⟨_,rfl⟩
  have:=lt_of_len (B:=65536) (a:=n) (k:=e) (by omega) (by omega)
  rw [show (65536 : Nat) = 2 ^ 16 from rfl,← Nat.pow_mul] at this
  exact Nat.le_trans (dg_len_two b n h1 (16 * e) this) (by omega)
 (refine q_H Try.func32 (fun F=>?_); simp only [q_z,q_y,Try.ntmps32,Try.results32])
 repeat' (first|with_reducible refine q_0 ?_|((with_reducible first|refine q_q tb23_ok fun K hK=>?_|refine q_r tb23_ok fun K hK=>?_);simp (maxSteps:=2000000) only [go_sem,↓reduceIte,reduceCtorEq,Nat.reduceLeDiff,Nat.reduceLT,Nat.reduceBEq,Nat.reduceAdd];(repeat1' with_reducible first|apply And.intro|(intro _;try exact q_v)|(refine hK _ ?_;clear hK K))<;>(try (clear hK K;exact q_u)))|(with_reducible refine q_s ?_;(first|apply q_J|apply q_K|apply q_L|apply q_M|apply q_N|apply q_O)<;>try (intro _;try exact q_v)))
 refine q_G (ι:={ p : Nat × List Int // p.1 ≤ n ∧ p.2 ++ dg b p.1 = dg b n }) (fun p=>⟨37,[(0,.c (.ints .i64 (dg 65536 p.1.1))),(1,.c (.i .i64 b)),(5,.own 0 0)],⟨[],[(0,⟨0,3,1,.ints .i64 p.1.2⟩)],[]⟩,1⟩) (fun p=>p.1.1) ⟨(n,[]),Nat.le_refl _,rfl⟩ ?_ ?_
 ·exact q_D
 rintro ⟨⟨m,o⟩,g1,g2⟩
 simp only at g1 g2 ⊢
 have lm:=dg_len_mono (B:=65536) (by omega) g1
 have pm:=dg_len_pos 65536 m (by omega)
 have ll : o.length ≤ 1048576:=by
  have:=congrArg List.length g2
  rw [List.length_append] at this
  omega
 have bm:=InB_dg 65536 (by omega) m
 have mn : (b : Int) < 65536:=by omega
 repeat' (first|with_reducible refine q_0 ?_|((with_reducible first|refine q_q tb23_ok fun K hK=>?_|refine q_r tb23_ok fun K hK=>?_);simp (maxSteps:=2000000) only [go_sem,↓reduceIte,reduceCtorEq,Nat.reduceLeDiff,Nat.reduceLT,Nat.reduceBEq,Nat.reduceAdd];(repeat1' with_reducible first|apply And.intro|(intro _;try exact q_v)|(refine hK _ ?_;clear hK K))<;>(try (clear hK K;exact q_u)))|(with_reducible refine q_s ?_;(first|apply q_J|apply q_K|apply q_L|apply q_M|apply q_N|apply q_O)<;>try (intro _;try exact q_v)))
 ·rename_i q
  have m0 : 0 < m:=pm.1 (by omega)
  refine q_F ⟨(m / b,o ++ [((m % b : Nat) : Int)]),Nat.le_trans (Nat.div_le_self _ _) g1,?_⟩ ?_ (Nat.div_lt_self m0 h1)
  ·simp only
   rw [dg_pos b m h1 m0] at g2
   rw [List.append_assoc]; exact g2
  ·exact q_D
 ·rename_i q
  have m0 : m = 0:=by
   rcases Nat.eq_zero_or_pos m with h | h
   ·exact h
   ·exact absurd (pm.2 h) (by omega)
  subst m0
  rw [dg_zero,List.append_nil] at g2
  rw [← g2] at hbn ⊢
  refine q_G (ι:={ k : Nat // k ≤ o.length }) (fun k=>⟨37,[(5,.c (.ints .i64 o)),(7,.own 1 0),(8,.c (.i .i64 ((k.1 : Int) - 1)))],⟨[],[(1,⟨0,3,1,.ints .i64 (o.drop k.1).reverse⟩)],[]⟩,2⟩) (fun k=>k.1) ⟨o.length,Nat.le_refl _⟩ ?_ ?_
  ·exact q_D
  rintro ⟨k,hk⟩
  simp only at hk ⊢
  have lr : (o.drop k).reverse.length ≤ 1048576:=by simp only [List.length_reverse,List.length_drop]; omega
  have e1 : 0 < k → ((k : Int) - 1).toNat = k - 1:=fun h=>by omega
  have e2 : 0 < k → (o.drop k).reverse ++ [o.getD (k - 1) 0] = (o.drop (k - 1)).reverse:=fun h=>by
   rw [List.drop_eq_getElem_cons (i:=k - 1) (by omega),List.reverse_cons,getD_eq _ _ (by omega),show k - 1 + 1 = k by omega]
  repeat' (first|with_reducible refine q_0 ?_|((with_reducible first|refine q_q tb23_ok fun K hK=>?_|refine q_r tb23_ok fun K hK=>?_);simp (maxSteps:=2000000) only [go_sem,↓reduceIte,reduceCtorEq,Nat.reduceLeDiff,Nat.reduceLT,Nat.reduceBEq,Nat.reduceAdd];(repeat1' with_reducible first|apply And.intro|(intro _;try exact q_v)|(refine hK _ ?_;clear hK K))<;>(try (clear hK K;exact q_u)))|(with_reducible refine q_s ?_;(first|apply q_J|apply q_K|apply q_L|apply q_M|apply q_N|apply q_O)<;>try (intro _;try exact q_v)))
  ·rename_i q
   rw [e1 (by omega),e2 (by omega)]
   refine q_F ⟨k - 1,by omega⟩ ?_ (by simp only; omega)
   exact q_D
  ·rename_i q
   have hk0 : k = 0:=by omega
   subst hk0
   exact q_A rfl

end Go.Proofs.Ytekigfhikikgaaa

namespace Go.Proofs.Ytekigfhikikgaaa
set_option linter.unusedSimpArgs false
set_option linter.unusedVariables false
open Go.Abs Go.Proofs.NatL

theorem okN_d (n : Nat) : okN (dg 4294967296 n) = decide ((dg 4294967296 n).length ≤ 600):=by
 unfold okN
 congr 1
 exact propext ⟨fun h=>h.1,fun h=>⟨h,dg_trd 4294967296 (by omega) n⟩⟩
def nt1 : Cfg:=rg3
theorem nt1_ok : TblOk Try.prog nt1:=rg3_ok
def nt2 : Cfg:=nt1
theorem nt2_ok : TblOk Try.prog nt2:=nt1_ok
def nt3 : Cfg:=nt2
theorem nt3_ok : TblOk Try.prog nt3:=nt2_ok
def nt4 : Cfg:=nt3
theorem nt4_ok : TblOk Try.prog nt4:=nt3_ok
def nt5 : Cfg:=nt4
theorem nt5_ok : TblOk Try.prog nt5:=nt4_ok
def nt6 : Cfg:=nt5
theorem nt6_ok : TblOk Try.prog nt6:=nt5_ok
def nt7 : Cfg:=nt6
theorem nt7_ok : TblOk Try.prog nt7:=nt6_ok
def nt8 : Cfg:=nt7
theorem nt8_ok : TblOk Try.prog nt8:=nt7_ok
def nt9 : Cfg:=addT 33 binaryCT nt8
theorem nt9_ok : TblOk Try.prog nt9:=q_I nt8_ok Try.func33 fun l K h=>by
 split at h
 ·exact ⟨_,binary_ret _ h.1,h.2⟩
 ·exact h.elim
def nt10 : Cfg:=nt9
theorem nt10_ok : TblOk Try.prog nt10:=nt9_ok
def figCT : CT:=mkCT [.inl (some (.ints .i64 []))] false fun l K=>match l with
 | [.inl (.ints .i64 xs),.inl (.i .i64 b)]=>(xs.length ≤ 65536 ∧ InB 65536 xs ∧ Trd xs ∧ 2 ≤ b ∧ b ≤ 36) ∧ K (.c (.ints .i64 (dg b.toNat (V 65536 xs)).reverse))
 | _=>False
def nt11 : Cfg:=addT 32 figCT nt10
theorem nt11_ok : TblOk Try.prog nt11:=q_I nt10_ok Try.func32 fun l K h=>by
 split at h
 ·rename_i xs b
  obtain ⟨⟨h1,h2,h3,h4,h5⟩,h⟩:=h
  obtain ⟨n,rfl⟩ : ∃ n : Nat,b = n:=⟨b.toNat,by omega⟩
  have e:=dg_V 65536 (by omega) xs h2 h3
  have:=figures_ret (V 65536 xs) n (by rw [e]; exact h1) (by omega) (by omega)
  rw [e] at this
  exact ⟨_,this,by simpa using h⟩
 ·exact h.elim
def nt12 : Cfg:=nt11
theorem nt12_ok : TblOk Try.prog nt12:=nt11_ok
attribute [go_sem] figCT okN_d V65 I65 T65 V32 I32 T32
end Go.Proofs.Ytekigfhikikgaaa

namespace Go.Proofs.NatL
set_option linter.unusedSimpArgs false
set_option linter.unusedVariables false

def sv (B : Nat) (s : Bool) (xs : List Int) : Int:=if s then -(V B xs : Int) else V B xs
def sgz (z : Int) (b : Bool) : Bool:=if z = 0 then b else decide (z < 0)

theorem sv_sgz {B : Nat} (hB : 2 ≤ B) (z : Int) (b : Bool) : sv B (sgz z b) (dg B z.natAbs) = z:=by
 unfold sv sgz
 rw [V_dg B hB]
 by_cases h0 : z = 0
 ·subst h0; simp
 ·rw [if_neg h0]
  by_cases h : z < 0
  ·rw [if_pos (by simpa using h)]; omega
  ·rw [if_neg (by simpa using h)]; omega
theorem sv_sg {B : Nat} (hB : 2 ≤ B) (z : Int) : sv B (decide (z < 0)) (dg B z.natAbs) = z:=by
 have:=sv_sgz hB z false
 unfold sgz at this
 by_cases h0 : z = 0
 ·subst h0; simp [sv,dg_zero,V]
 ·rw [if_neg h0] at this; exact this
theorem sv32 (z : Int) : sv 4294967296 (decide (z < 0)) (dg 4294967296 z.natAbs) = z:=sv_sg (by omega) z
theorem sv65 (z : Int) : sv 65536 (decide (z < 0)) (dg 65536 z.natAbs) = z:=sv_sg (by omega) z
theorem svz65 (z : Int) (b : Bool) : sv 65536 (sgz z b) (dg 65536 z.natAbs) = z:=sv_sgz (by omega) z b
instance decTrd (xs : List Int) : Decidable (Trd xs):=by unfold Trd; infer_instance
def sg (s : Bool) (m : Nat) : Int:=if s then -(m : Int) else m
theorem sv_d {B : Nat} (hB : 2 ≤ B) (s : Bool) (m : Nat) : sv B s (dg B m) = sg s m:=by unfold sv sg; rw [V_dg B hB]
theorem sgt (m : Nat) : sg true m = -(m : Int):=rfl
theorem sgf (m : Nat) : sg false m = m:=rfl
end Go.Proofs.NatL

namespace Go.Proofs.Ytekigfhikikgaaa
set_option linter.unusedSimpArgs false
set_option linter.unusedVariables false
open Go.Abs Go.Proofs.NatL

attribute [go_sem] listT
end Go.Proofs.Ytekigfhikikgaaa

namespace Go.Proofs.Ytekigfhikikgaaa
set_option linter.unusedSimpArgs false
set_option linter.unusedVariables false
open Go.Abs Go.Proofs.NatL

def digL : List UInt8:=[48,49,50,51,52,53,54,55,56,57,97,98,99,100,101,102,103,104,105,106,107,108,109,110,111,112,113,114,115,116,117,118,119,120,121,122]
def chr (d : Int) : Int:=((digL.getD d.toNat 0).toNat : Nat)
def textI (z : Int) (b : Nat) : List Int:=(if z < 0 then [45] else []) ++ (if z = 0 then [48] else (dg b z.natAbs).reverse.map chr)
theorem map_snoc (f : Int → Int) (ds : List Int) (i : Nat) (h : i < ds.length) : (ds.take (i + 1)).map f = (ds.take i).map f ++ [f (ds.getD i 0)]:=by
 rw [List.take_succ_eq_append_getElem h,List.map_append,getD_eq _ _ h]; rfl
end Go.Proofs.Ytekigfhikikgaaa

namespace Go.Proofs.NatL
set_option linter.unusedSimpArgs false
set_option linter.unusedVariables false
def dv (b : Nat) (c : Int) : Int:=if 48 ≤ c ∧ c ≤ 57 ∧ c - 48 < b then c - 48 else if 97 ≤ c ∧ c ≤ 122 ∧ c - 87 < b then c - 87 else -1
def pzR (b : Nat) (neg : Bool) (r : List Int) : Option Int :=
 if r = [] ∨ (r.getD 0 0 = 48 ∧ (1 < r.length ∨ neg = true)) then none else if ∀ c ∈ r,0 ≤ dv b c then some (sg neg (rdv b (r.map (dv b)))) else none
def pz (b : Nat) (l : List Int) : Option Int:=if 0 < l.length ∧ l.getD 0 0 = 45 then pzR b true (l.drop 1) else pzR b false l
theorem rdv_rev (b : Nat) : ∀ xs : List Int,rdv b xs.reverse = V b xs:=by
 intro xs
 induction xs with
 | nil=>rfl
 | cons x xs ih=>rw [List.reverse_cons,rdv_snoc,ih]; simp only [V]; rw [Nat.mul_comm]; omega
end Go.Proofs.NatL
namespace Go.Proofs.Ytekigfhikikgaaa
set_option linter.unusedSimpArgs false
set_option linter.unusedVariables false
open Go.Abs Go.Proofs.NatL
theorem chr_eq : ∀ d : Nat,d < 36 → chr d = if d < 10 then (d : Int) + 48 else (d : Int) + 87:=by decide
theorem dv_chr {b d : Nat} (hb : b ≤ 36) (h : d < b) : dv b (chr d) = d:=by
 rw [chr_eq d (by omega)]
 unfold dv
 split
 ·rw [if_pos (by omega)]; omega
 ·rw [if_neg (by omega),if_pos (by omega)]; omega
theorem chr_range (d : Nat) (h : d < 36) : 48 ≤ chr d ∧ chr d ≤ 122:=by rw [chr_eq d h]; split <;> omega
theorem pz_text (z : Int) (b : Nat) (h1 : 2 ≤ b) (h2 : b ≤ 36) : pz b (textI z b) = some z:=by
 by_cases hz : z = 0
 ·subst hz
  unfold textI
  simp only [Int.lt_irrefl,if_false,if_true,List.nil_append]
  have e : dv b 48 = 0:=by unfold dv; split <;> omega
  simp only [pz,pzR,List.length_cons,List.length_nil,List.getD_cons_zero]
  rw [if_neg (by omega),if_neg (by simp),if_pos (by simp [e])]
  simp [e,rdv,sg]
 ·obtain ⟨n,hn⟩ : ∃ n,n = z.natAbs:=⟨_,rfl⟩
  have hn0 : 0 < n:=by omega
  have hin:=InB_dg b h1 n
  have htr:=dg_trd b h1 n
  have hv : V b (dg b n) = n:=V_dg b h1 n
  have hl:=(dg_len_pos b n h1).2 hn0
  have back : ((dg b n).reverse.map chr).map (dv b) = (dg b n).reverse:=by
   rw [List.map_map]
   conv=>rhs; rw [← List.map_id (dg b n).reverse]
   refine List.map_congr_left fun x hx=>?_
   have:=hin x (List.mem_reverse.1 hx)
   obtain ⟨d,rfl⟩ : ∃ d : Nat,x = d:=⟨x.toNat,by omega⟩
   exact dv_chr h2 (by omega)
  have good : ∀ c ∈ (dg b n).reverse.map chr,0 ≤ dv b c:=by
   intro c hc
   obtain ⟨x,hx,rfl⟩:=List.mem_map.1 hc
   have:=hin x (List.mem_reverse.1 hx)
   obtain ⟨d,rfl⟩ : ∃ d : Nat,x = d:=⟨x.toNat,by omega⟩
   rw [dv_chr h2 (by omega)]; omega
  have head : ((dg b n).reverse.map chr).getD 0 0 ≠ 48 ∧ ((dg b n).reverse.map chr).getD 0 0 ≠ 45:=by
   have e : ((dg b n).reverse.map chr).getD 0 0 = chr ((dg b n).getD ((dg b n).length - 1) 0):=by
    rw [List.getD_eq_getElem?_getD,List.getElem?_map,List.getElem?_reverse (by omega),List.getElem?_eq_getElem (by omega),getD_eq _ _ (by omega)]
    simp
   have hd:=InB_getD (by omega) hin ((dg b n).length - 1)
   have hne : (dg b n).getD ((dg b n).length - 1) 0 ≠ 0:=by
    rcases htr with h | h
    ·omega
    ·exact h
   obtain ⟨d,hd'⟩ : ∃ d : Nat,(dg b n).getD ((dg b n).length - 1) 0 = d:=⟨_,(Int.toNat_of_nonneg hd.1).symm⟩
   rw [hd'] at hd hne e
   rw [e,chr_eq d (by omega)]
   split <;> omega
  have ne : (dg b n).reverse.map chr ≠ []:=fun e=>by have:=congrArg List.length e; rw [List.length_map,List.length_reverse,List.length_nil] at this; omega
  have hR : ∀ neg,pzR b neg ((dg b n).reverse.map chr) = some (sg neg n):=by
   intro neg
   unfold pzR
   rw [if_neg (fun h=>by rcases h with h | h; exact ne h; exact head.1 h.1),if_pos good,back,rdv_rev,hv]
  unfold textI
  rw [if_neg hz,← hn]
  by_cases hneg : z < 0
  ·rw [if_pos hneg]
   unfold pz
   rw [if_pos ⟨by simp,rfl⟩]
   show pzR b true ((dg b n).reverse.map chr) = _
   rw [hR,show sg true n = z by rw [sgt]; omega]
  ·rw [if_neg hneg,List.nil_append]
   unfold pz
   rw [if_neg (fun h=>head.2 h.2),hR,show sg false n = z by rw [sgf]; omega]

theorem strOf_snoc (xs : List Int) (x : Int) : strOf (xs ++ [x]) = (strOf xs).push (UInt8.ofNat x.toNat):=by simp [strOf,List.foldl_append]
theorem bytesOf_strOf (xs : List Int) (h : InB 256 xs) : bytesOf (strOf xs) = xs:=by
 have key : ∀ n,∀ xs : List Int,xs.length = n → InB 256 xs → bytesOf (strOf xs) = xs:=by
  intro n
  induction n with
  | zero=>intro xs h _; obtain rfl:=List.eq_nil_of_length_eq_zero h; rfl
  | succ n ih =>
   intro xs hl hb
   have e:=split_last xs (by omega)
   have hin:=InB_getD (B:=256) (by omega) hb (xs.length - 1)
   generalize xs.getD (xs.length - 1) 0 = x at *
   have hb1:=InB_take hb (xs.length - 1)
   have hl1 : (xs.take (xs.length - 1)).length = n:=by rw [List.length_take]; omega
   generalize xs.take (xs.length - 1) = ys at *
   subst e
   have:=ih ys hl1 hb1
   rw [strOf_snoc]
   unfold bytesOf at this ⊢
   rw [ByteArray.data_push,Array.toList_push,List.map_append,this]
   congr 1
   simp only [List.map_cons,List.map_nil,List.cons.injEq,and_true]
   rw [UInt8.toNat_ofNat']
   omega
 exact key _ xs rfl h
theorem str_size (s : ByteArray) : s.size = (bytesOf s).length:=by simp only [bytesOf,List.length_map,Array.length_toList]; rfl
theorem str_at (s : ByteArray) (n : Nat) : (((s.data.toList.getD n 0).toNat : Nat) : Int) = (bytesOf s).getD n 0:=by
 unfold bytesOf
 rw [List.getD_eq_getElem?_getD,List.getD_eq_getElem?_getD,List.getElem?_map]
 cases s.data.toList[n]? <;> rfl
def digB (b : Nat) : List Int:=(List.range b).map fun d : Nat=>chr (d : Int)
theorem lit_full : bytesOf { data:=#[48,49,50,51,52,53,54,55,56,57,97,98,99,100,101,102,103,104,105,106,107,108,109,110,111,112,113,114,115,116,117,118,119,120,121,122] } = digB 36:=by decide +kernel
theorem digB_len (b : Nat) : (digB b).length = b:=by simp [digB]
theorem digB_at (b d : Nat) (h : d < b) : (digB b).getD d 0 = chr (d : Int):=by simp [digB,List.getD_eq_getElem?_getD,h]
theorem ml0 : (0 ≤ Go.maxLen) = True:=eq_true (Nat.zero_le _)
theorem ml1 : (1 ≤ Go.maxLen) = True:=eq_true (by decide +kernel)
theorem toNat_one : Int.toNat 1 = 1:=rfl
theorem lit_none : bytesOf { data:=#[] } = []:=rfl
theorem textI_inB (z : Int) (b : Nat) (h1 : 2 ≤ b) (h2 : b ≤ 36) : InB 256 (textI z b):=by
 unfold textI
 refine InB_app (by split; exact InB_one (by omega) (by omega); exact InB_nil _) ?_
 split
 ·exact InB_one (by omega) (by omega)
 ·intro c hc
  obtain ⟨x,hx,rfl⟩:=List.mem_map.1 hc
  have:=InB_dg b h1 _ x (List.mem_reverse.1 hx)
  obtain ⟨d,rfl⟩ : ∃ d : Nat,x = d:=⟨x.toNat,by omega⟩
  have:=chr_range d (by omega)
  omega
theorem text_bytes (z : Int) (b : Nat) (h1 : 2 ≤ b) (h2 : b ≤ 36) : bytesOf (strOf (textI z b)) = textI z b:=bytesOf_strOf _ (textI_inB z b h1 h2)
end Go.Proofs.Ytekigfhikikgaaa
