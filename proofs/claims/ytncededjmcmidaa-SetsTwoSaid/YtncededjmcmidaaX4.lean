import Derived.Test.YtncededjmcmidaaRows
import Derived.Test.YtncededjmcmidaaX3
namespace Go.Proofs.Ytncededjmcmidaa
set_option linter.unusedSimpArgs false
set_option linter.unusedVariables false
open Go.Abs
theorem sz2 : szO Try.prog 2 = some 1:=by kernel_rfl
theorem by2 : byO Try.prog 2 = some 8:=by kernel_rfl
theorem ze2 : zeroO Try.prog 2 = some [.int .i64 0]:=by kernel_rfl
theorem ag2 : aggO Try.prog 2 = some false:=by kernel_rfl
theorem el2 : elO Try.prog 2 = none:=by kernel_rfl
theorem in2 : intO Try.prog 2 = some .i64:=by kernel_rfl
theorem st2 : strO Try.prog 2 = false:=by kernel_rfl
theorem u82 : u8O Try.prog 2 = false:=by kernel_rfl
theorem em2 : emptyO Try.prog 2 = some (.ints .i64 []):=by kernel_rfl
theorem sz3 : szO Try.prog 3 = some 1:=by kernel_rfl
theorem by3 : byO Try.prog 3 = some 8:=by kernel_rfl
theorem ze3 : zeroO Try.prog 3 = some [.int .i64 0]:=by kernel_rfl
theorem ag3 : aggO Try.prog 3 = some false:=by kernel_rfl
theorem el3 : elO Try.prog 3 = none:=by kernel_rfl
theorem in3 : intO Try.prog 3 = some .i64:=by kernel_rfl
theorem st3 : strO Try.prog 3 = false:=by kernel_rfl
theorem u83 : u8O Try.prog 3 = false:=by kernel_rfl
theorem em3 : emptyO Try.prog 3 = some (.ints .i64 []):=by kernel_rfl
theorem sz4 : szO Try.prog 4 = some 1:=by kernel_rfl
theorem by4 : byO Try.prog 4 = some 1:=by kernel_rfl
theorem ze4 : zeroO Try.prog 4 = some [.bool false]:=by kernel_rfl
theorem ag4 : aggO Try.prog 4 = some false:=by kernel_rfl
theorem el4 : elO Try.prog 4 = none:=by kernel_rfl
theorem st4 : strO Try.prog 4 = false:=by kernel_rfl
theorem u84 : u8O Try.prog 4 = false:=by kernel_rfl
theorem em4 : emptyO Try.prog 4 = some (.bools []):=by kernel_rfl
theorem sz5 : szO Try.prog 5 = some 1:=by kernel_rfl
theorem by5 : byO Try.prog 5 = some 1:=by kernel_rfl
theorem ze5 : zeroO Try.prog 5 = some [.int .u8 0]:=by kernel_rfl
theorem ag5 : aggO Try.prog 5 = some false:=by kernel_rfl
theorem el5 : elO Try.prog 5 = none:=by kernel_rfl
theorem in5 : intO Try.prog 5 = some .u8:=by kernel_rfl
theorem st5 : strO Try.prog 5 = false:=by kernel_rfl
theorem u85 : u8O Try.prog 5 = false:=by kernel_rfl
theorem em5 : emptyO Try.prog 5 = some (.ints .u8 []):=by kernel_rfl
theorem sz9 : szO Try.prog 9 = some 1:=by kernel_rfl
theorem by9 : byO Try.prog 9 = some 16:=by kernel_rfl
theorem ze9 : zeroO Try.prog 9 = some [.string ByteArray.empty]:=by kernel_rfl
theorem ag9 : aggO Try.prog 9 = some false:=by kernel_rfl
theorem el9 : elO Try.prog 9 = none:=by kernel_rfl
theorem st9 : strO Try.prog 9 = true:=by kernel_rfl
theorem u89 : u8O Try.prog 9 = false:=by kernel_rfl
theorem em9 : emptyO Try.prog 9 = some (.sl 1 []):=by kernel_rfl
theorem sz12 : szO Try.prog 12 = some 1:=by kernel_rfl
theorem by12 : byO Try.prog 12 = some 8:=by kernel_rfl
theorem ze12 : zeroO Try.prog 12 = some [.int .u64 0]:=by kernel_rfl
theorem ag12 : aggO Try.prog 12 = some false:=by kernel_rfl
theorem el12 : elO Try.prog 12 = none:=by kernel_rfl
theorem in12 : intO Try.prog 12 = some .u64:=by kernel_rfl
theorem st12 : strO Try.prog 12 = false:=by kernel_rfl
theorem u812 : u8O Try.prog 12 = false:=by kernel_rfl
theorem em12 : emptyO Try.prog 12 = some (.ints .u64 []):=by kernel_rfl
theorem sz13 : szO Try.prog 13 = some 2:=by kernel_rfl
theorem by13 : byO Try.prog 13 = some 24:=by kernel_rfl
theorem ze13 : zeroO Try.prog 13 = some [.string ByteArray.empty,.int .u64 0]:=by kernel_rfl
theorem ag13 : aggO Try.prog 13 = some true:=by kernel_rfl
theorem el13 : elO Try.prog 13 = none:=by kernel_rfl
theorem st13 : strO Try.prog 13 = false:=by kernel_rfl
theorem u813 : u8O Try.prog 13 = false:=by kernel_rfl
theorem em13 : emptyO Try.prog 13 = some (.sl 2 []):=by kernel_rfl
theorem fd13_0 : fldO Try.prog 13 0 = some (0,9):=by kernel_rfl
theorem fd13_1 : fldO Try.prog 13 1 = some (1,12):=by kernel_rfl
theorem pl13 : plO Try.prog 13 = some [(0,1),(1,1)]:=by kernel_rfl
theorem sz21 : szO Try.prog 21 = some 1:=by kernel_rfl
theorem by21 : byO Try.prog 21 = some 4:=by kernel_rfl
theorem ze21 : zeroO Try.prog 21 = some [.int .i32 0]:=by kernel_rfl
theorem ag21 : aggO Try.prog 21 = some false:=by kernel_rfl
theorem el21 : elO Try.prog 21 = none:=by kernel_rfl
theorem in21 : intO Try.prog 21 = some .i32:=by kernel_rfl
theorem st21 : strO Try.prog 21 = false:=by kernel_rfl
theorem u821 : u8O Try.prog 21 = false:=by kernel_rfl
theorem em21 : emptyO Try.prog 21 = some (.ints .i32 []):=by kernel_rfl
theorem sz22 : szO Try.prog 22 = some 1:=by kernel_rfl
theorem by22 : byO Try.prog 22 = some 24:=by kernel_rfl
theorem ze22 : zeroO Try.prog 22 = some [.slice none 0 0]:=by kernel_rfl
theorem ag22 : aggO Try.prog 22 = some false:=by kernel_rfl
theorem el22 : elO Try.prog 22 = some 3:=by kernel_rfl
theorem st22 : strO Try.prog 22 = false:=by kernel_rfl
theorem u822 : u8O Try.prog 22 = false:=by kernel_rfl
theorem em22 : emptyO Try.prog 22 = some (.sl 1 []):=by kernel_rfl
theorem sz23 : szO Try.prog 23 = some 1:=by kernel_rfl
theorem by23 : byO Try.prog 23 = some 8:=by kernel_rfl
theorem ze23 : zeroO Try.prog 23 = some [.pointer none]:=by kernel_rfl
theorem ag23 : aggO Try.prog 23 = some false:=by kernel_rfl
theorem el23 : elO Try.prog 23 = none:=by kernel_rfl
theorem st23 : strO Try.prog 23 = false:=by kernel_rfl
theorem u823 : u8O Try.prog 23 = false:=by kernel_rfl
theorem em23 : emptyO Try.prog 23 = some (.sl 1 []):=by kernel_rfl
theorem sz25 : szO Try.prog 25 = some 1:=by kernel_rfl
theorem by25 : byO Try.prog 25 = some 24:=by kernel_rfl
theorem ze25 : zeroO Try.prog 25 = some [.slice none 0 0]:=by kernel_rfl
theorem ag25 : aggO Try.prog 25 = some false:=by kernel_rfl
theorem el25 : elO Try.prog 25 = some 54:=by kernel_rfl
theorem st25 : strO Try.prog 25 = false:=by kernel_rfl
theorem u825 : u8O Try.prog 25 = false:=by kernel_rfl
theorem em25 : emptyO Try.prog 25 = some (.sl 1 []):=by kernel_rfl
theorem sz26 : szO Try.prog 26 = some 1:=by kernel_rfl
theorem by26 : byO Try.prog 26 = some 24:=by kernel_rfl
theorem ze26 : zeroO Try.prog 26 = some [.slice none 0 0]:=by kernel_rfl
theorem ag26 : aggO Try.prog 26 = some true:=by kernel_rfl
theorem el26 : elO Try.prog 26 = none:=by kernel_rfl
theorem st26 : strO Try.prog 26 = false:=by kernel_rfl
theorem u826 : u8O Try.prog 26 = false:=by kernel_rfl
theorem em26 : emptyO Try.prog 26 = some (.sl 1 []):=by kernel_rfl
theorem fd26_0 : fldO Try.prog 26 0 = some (0,25):=by kernel_rfl
theorem pl26 : plO Try.prog 26 = some [(0,1)]:=by kernel_rfl
theorem sz27 : szO Try.prog 27 = some 1:=by kernel_rfl
theorem by27 : byO Try.prog 27 = some 24:=by kernel_rfl
theorem ze27 : zeroO Try.prog 27 = some [.slice none 0 0]:=by kernel_rfl
theorem ag27 : aggO Try.prog 27 = some true:=by kernel_rfl
theorem el27 : elO Try.prog 27 = none:=by kernel_rfl
theorem st27 : strO Try.prog 27 = false:=by kernel_rfl
theorem u827 : u8O Try.prog 27 = false:=by kernel_rfl
theorem em27 : emptyO Try.prog 27 = some (.sl 1 []):=by kernel_rfl
theorem fd27_0 : fldO Try.prog 27 0 = some (0,25):=by kernel_rfl
theorem pl27 : plO Try.prog 27 = some [(0,1)]:=by kernel_rfl
theorem sz30 : szO Try.prog 30 = some 1:=by kernel_rfl
theorem by30 : byO Try.prog 30 = some 24:=by kernel_rfl
theorem ze30 : zeroO Try.prog 30 = some [.slice none 0 0]:=by kernel_rfl
theorem ag30 : aggO Try.prog 30 = some false:=by kernel_rfl
theorem el30 : elO Try.prog 30 = some 117:=by kernel_rfl
theorem st30 : strO Try.prog 30 = false:=by kernel_rfl
theorem u830 : u8O Try.prog 30 = false:=by kernel_rfl
theorem em30 : emptyO Try.prog 30 = some (.sl 1 []):=by kernel_rfl
theorem sz31 : szO Try.prog 31 = some 2:=by kernel_rfl
theorem by31 : byO Try.prog 31 = some 32:=by kernel_rfl
theorem ze31 : zeroO Try.prog 31 = some [.bool false,.slice none 0 0]:=by kernel_rfl
theorem ag31 : aggO Try.prog 31 = some true:=by kernel_rfl
theorem el31 : elO Try.prog 31 = none:=by kernel_rfl
theorem st31 : strO Try.prog 31 = false:=by kernel_rfl
theorem u831 : u8O Try.prog 31 = false:=by kernel_rfl
theorem em31 : emptyO Try.prog 31 = some (.sl 2 []):=by kernel_rfl
theorem fd31_0 : fldO Try.prog 31 0 = some (0,4):=by kernel_rfl
theorem fd31_1 : fldO Try.prog 31 1 = some (1,30):=by kernel_rfl
theorem pl31 : plO Try.prog 31 = some [(0,1),(1,1)]:=by kernel_rfl
theorem sz32 : szO Try.prog 32 = some 2:=by kernel_rfl
theorem by32 : byO Try.prog 32 = some 32:=by kernel_rfl
theorem ze32 : zeroO Try.prog 32 = some [.bool false,.slice none 0 0]:=by kernel_rfl
theorem ag32 : aggO Try.prog 32 = some true:=by kernel_rfl
theorem el32 : elO Try.prog 32 = none:=by kernel_rfl
theorem st32 : strO Try.prog 32 = false:=by kernel_rfl
theorem u832 : u8O Try.prog 32 = false:=by kernel_rfl
theorem em32 : emptyO Try.prog 32 = some (.sl 2 []):=by kernel_rfl
theorem fd32_0 : fldO Try.prog 32 0 = some (0,4):=by kernel_rfl
theorem fd32_1 : fldO Try.prog 32 1 = some (1,30):=by kernel_rfl
theorem pl32 : plO Try.prog 32 = some [(0,1),(1,1)]:=by kernel_rfl
theorem sz33 : szO Try.prog 33 = some 7:=by kernel_rfl
theorem by33 : byO Try.prog 33 = some 96:=by kernel_rfl
theorem ze33 : zeroO Try.prog 33 = some [.int .i64 0,.bool false,.slice none 0 0,.bool false,.slice none 0 0,.string ByteArray.empty,.int .i64 0]:=by kernel_rfl
theorem ag33 : aggO Try.prog 33 = some true:=by kernel_rfl
theorem el33 : elO Try.prog 33 = none:=by kernel_rfl
theorem st33 : strO Try.prog 33 = false:=by kernel_rfl
theorem u833 : u8O Try.prog 33 = false:=by kernel_rfl
theorem em33 : emptyO Try.prog 33 = some (.sl 7 []):=by kernel_rfl
theorem fd33_0 : fldO Try.prog 33 0 = some (0,3):=by kernel_rfl
theorem fd33_1 : fldO Try.prog 33 1 = some (1,32):=by kernel_rfl
theorem fd33_2 : fldO Try.prog 33 2 = some (3,32):=by kernel_rfl
theorem fd33_3 : fldO Try.prog 33 3 = some (5,9):=by kernel_rfl
theorem fd33_4 : fldO Try.prog 33 4 = some (6,3):=by kernel_rfl
theorem pl33 : plO Try.prog 33 = some [(0,1),(1,2),(3,2),(5,1),(6,1)]:=by kernel_rfl
theorem sz34 : szO Try.prog 34 = some 7:=by kernel_rfl
theorem by34 : byO Try.prog 34 = some 96:=by kernel_rfl
theorem ze34 : zeroO Try.prog 34 = some [.int .i64 0,.bool false,.slice none 0 0,.bool false,.slice none 0 0,.string ByteArray.empty,.int .i64 0]:=by kernel_rfl
theorem ag34 : aggO Try.prog 34 = some true:=by kernel_rfl
theorem el34 : elO Try.prog 34 = none:=by kernel_rfl
theorem st34 : strO Try.prog 34 = false:=by kernel_rfl
theorem u834 : u8O Try.prog 34 = false:=by kernel_rfl
theorem em34 : emptyO Try.prog 34 = some (.sl 7 []):=by kernel_rfl
theorem fd34_0 : fldO Try.prog 34 0 = some (0,3):=by kernel_rfl
theorem fd34_1 : fldO Try.prog 34 1 = some (1,32):=by kernel_rfl
theorem fd34_2 : fldO Try.prog 34 2 = some (3,32):=by kernel_rfl
theorem fd34_3 : fldO Try.prog 34 3 = some (5,9):=by kernel_rfl
theorem fd34_4 : fldO Try.prog 34 4 = some (6,3):=by kernel_rfl
theorem pl34 : plO Try.prog 34 = some [(0,1),(1,2),(3,2),(5,1),(6,1)]:=by kernel_rfl
theorem sz37 : szO Try.prog 37 = some 1:=by kernel_rfl
theorem by37 : byO Try.prog 37 = some 24:=by kernel_rfl
theorem ze37 : zeroO Try.prog 37 = some [.slice none 0 0]:=by kernel_rfl
theorem ag37 : aggO Try.prog 37 = some false:=by kernel_rfl
theorem el37 : elO Try.prog 37 = some 5:=by kernel_rfl
theorem st37 : strO Try.prog 37 = false:=by kernel_rfl
theorem u837 : u8O Try.prog 37 = true:=by kernel_rfl
theorem em37 : emptyO Try.prog 37 = some (.sl 1 []):=by kernel_rfl
theorem sz38 : szO Try.prog 38 = some 2:=by kernel_rfl
theorem by38 : byO Try.prog 38 = some 16:=by kernel_rfl
theorem ze38 : zeroO Try.prog 38 = some [.int .i64 0,.int .i64 0]:=by kernel_rfl
theorem ag38 : aggO Try.prog 38 = some true:=by kernel_rfl
theorem el38 : elO Try.prog 38 = none:=by kernel_rfl
theorem st38 : strO Try.prog 38 = false:=by kernel_rfl
theorem u838 : u8O Try.prog 38 = false:=by kernel_rfl
theorem em38 : emptyO Try.prog 38 = some (.sl 2 []):=by kernel_rfl
theorem fd38_0 : fldO Try.prog 38 0 = some (0,3):=by kernel_rfl
theorem fd38_1 : fldO Try.prog 38 1 = some (1,3):=by kernel_rfl
theorem pl38 : plO Try.prog 38 = some [(0,1),(1,1)]:=by kernel_rfl
theorem sz39 : szO Try.prog 39 = some 2:=by kernel_rfl
theorem by39 : byO Try.prog 39 = some 16:=by kernel_rfl
theorem ze39 : zeroO Try.prog 39 = some [.int .i64 0,.int .i64 0]:=by kernel_rfl
theorem ag39 : aggO Try.prog 39 = some true:=by kernel_rfl
theorem el39 : elO Try.prog 39 = none:=by kernel_rfl
theorem st39 : strO Try.prog 39 = false:=by kernel_rfl
theorem u839 : u8O Try.prog 39 = false:=by kernel_rfl
theorem em39 : emptyO Try.prog 39 = some (.sl 2 []):=by kernel_rfl
theorem fd39_0 : fldO Try.prog 39 0 = some (0,3):=by kernel_rfl
theorem fd39_1 : fldO Try.prog 39 1 = some (1,3):=by kernel_rfl
theorem pl39 : plO Try.prog 39 = some [(0,1),(1,1)]:=by kernel_rfl
theorem sz42 : szO Try.prog 42 = some 1:=by kernel_rfl
theorem by42 : byO Try.prog 42 = some 8:=by kernel_rfl
theorem ze42 : zeroO Try.prog 42 = some [.int .u64 0]:=by kernel_rfl
theorem ag42 : aggO Try.prog 42 = some false:=by kernel_rfl
theorem el42 : elO Try.prog 42 = none:=by kernel_rfl
theorem in42 : intO Try.prog 42 = some .u64:=by kernel_rfl
theorem st42 : strO Try.prog 42 = false:=by kernel_rfl
theorem u842 : u8O Try.prog 42 = false:=by kernel_rfl
theorem em42 : emptyO Try.prog 42 = some (.ints .u64 []):=by kernel_rfl
theorem sz51 : szO Try.prog 51 = some 1:=by kernel_rfl
theorem by51 : byO Try.prog 51 = some 24:=by kernel_rfl
theorem ze51 : zeroO Try.prog 51 = some [.slice none 0 0]:=by kernel_rfl
theorem ag51 : aggO Try.prog 51 = some false:=by kernel_rfl
theorem el51 : elO Try.prog 51 = some 9:=by kernel_rfl
theorem st51 : strO Try.prog 51 = false:=by kernel_rfl
theorem u851 : u8O Try.prog 51 = false:=by kernel_rfl
theorem em51 : emptyO Try.prog 51 = some (.sl 1 []):=by kernel_rfl
theorem sz52 : szO Try.prog 52 = some 1:=by kernel_rfl
theorem by52 : byO Try.prog 52 = some 24:=by kernel_rfl
theorem ze52 : zeroO Try.prog 52 = some [.slice none 0 0]:=by kernel_rfl
theorem ag52 : aggO Try.prog 52 = some false:=by kernel_rfl
theorem el52 : elO Try.prog 52 = some 34:=by kernel_rfl
theorem st52 : strO Try.prog 52 = false:=by kernel_rfl
theorem u852 : u8O Try.prog 52 = false:=by kernel_rfl
theorem em52 : emptyO Try.prog 52 = some (.sl 1 []):=by kernel_rfl
theorem sz53 : szO Try.prog 53 = some 10:=by kernel_rfl
theorem by53 : byO Try.prog 53 = some 168:=by kernel_rfl
theorem ze53 : zeroO Try.prog 53 = some [.int .i64 0,.string ByteArray.empty,.int .i64 0,.slice none 0 0,.slice none 0 0,.slice none 0 0,.slice none 0 0,.slice none 0 0,.int .i64 0,.int .i64 0]:=by kernel_rfl
theorem ag53 : aggO Try.prog 53 = some true:=by kernel_rfl
theorem el53 : elO Try.prog 53 = none:=by kernel_rfl
theorem st53 : strO Try.prog 53 = false:=by kernel_rfl
theorem u853 : u8O Try.prog 53 = false:=by kernel_rfl
theorem em53 : emptyO Try.prog 53 = some (.sl 10 []):=by kernel_rfl
theorem fd53_0 : fldO Try.prog 53 0 = some (0,3):=by kernel_rfl
theorem fd53_1 : fldO Try.prog 53 1 = some (1,9):=by kernel_rfl
theorem fd53_2 : fldO Try.prog 53 2 = some (2,3):=by kernel_rfl
theorem fd53_3 : fldO Try.prog 53 3 = some (3,22):=by kernel_rfl
theorem fd53_4 : fldO Try.prog 53 4 = some (4,22):=by kernel_rfl
theorem fd53_5 : fldO Try.prog 53 5 = some (5,51):=by kernel_rfl
theorem fd53_6 : fldO Try.prog 53 6 = some (6,52):=by kernel_rfl
theorem fd53_7 : fldO Try.prog 53 7 = some (7,52):=by kernel_rfl
theorem fd53_8 : fldO Try.prog 53 8 = some (8,3):=by kernel_rfl
theorem fd53_9 : fldO Try.prog 53 9 = some (9,3):=by kernel_rfl
theorem pl53 : plO Try.prog 53 = some [(0,1),(1,1),(2,1),(3,1),(4,1),(5,1),(6,1),(7,1),(8,1),(9,1)]:=by kernel_rfl
theorem sz54 : szO Try.prog 54 = some 10:=by kernel_rfl
theorem by54 : byO Try.prog 54 = some 168:=by kernel_rfl
theorem ze54 : zeroO Try.prog 54 = some [.int .i64 0,.string ByteArray.empty,.int .i64 0,.slice none 0 0,.slice none 0 0,.slice none 0 0,.slice none 0 0,.slice none 0 0,.int .i64 0,.int .i64 0]:=by kernel_rfl
theorem ag54 : aggO Try.prog 54 = some true:=by kernel_rfl
theorem el54 : elO Try.prog 54 = none:=by kernel_rfl
theorem st54 : strO Try.prog 54 = false:=by kernel_rfl
theorem u854 : u8O Try.prog 54 = false:=by kernel_rfl
theorem em54 : emptyO Try.prog 54 = some (.sl 10 []):=by kernel_rfl
theorem fd54_0 : fldO Try.prog 54 0 = some (0,3):=by kernel_rfl
theorem fd54_1 : fldO Try.prog 54 1 = some (1,9):=by kernel_rfl
theorem fd54_2 : fldO Try.prog 54 2 = some (2,3):=by kernel_rfl
theorem fd54_3 : fldO Try.prog 54 3 = some (3,22):=by kernel_rfl
theorem fd54_4 : fldO Try.prog 54 4 = some (4,22):=by kernel_rfl
theorem fd54_5 : fldO Try.prog 54 5 = some (5,51):=by kernel_rfl
theorem fd54_6 : fldO Try.prog 54 6 = some (6,52):=by kernel_rfl
theorem fd54_7 : fldO Try.prog 54 7 = some (7,52):=by kernel_rfl
theorem fd54_8 : fldO Try.prog 54 8 = some (8,3):=by kernel_rfl
theorem fd54_9 : fldO Try.prog 54 9 = some (9,3):=by kernel_rfl
theorem pl54 : plO Try.prog 54 = some [(0,1),(1,1),(2,1),(3,1),(4,1),(5,1),(6,1),(7,1),(8,1),(9,1)]:=by kernel_rfl
theorem sz58 : szO Try.prog 58 = some 1:=by kernel_rfl
theorem by58 : byO Try.prog 58 = some 8:=by kernel_rfl
theorem ze58 : zeroO Try.prog 58 = some [.pointer none]:=by kernel_rfl
theorem ag58 : aggO Try.prog 58 = some false:=by kernel_rfl
theorem el58 : elO Try.prog 58 = none:=by kernel_rfl
theorem st58 : strO Try.prog 58 = false:=by kernel_rfl
theorem u858 : u8O Try.prog 58 = false:=by kernel_rfl
theorem em58 : emptyO Try.prog 58 = some (.sl 1 []):=by kernel_rfl
theorem sz66 : szO Try.prog 66 = some 1:=by kernel_rfl
theorem by66 : byO Try.prog 66 = some 8:=by kernel_rfl
theorem ze66 : zeroO Try.prog 66 = some [.pointer none]:=by kernel_rfl
theorem ag66 : aggO Try.prog 66 = some false:=by kernel_rfl
theorem el66 : elO Try.prog 66 = none:=by kernel_rfl
theorem st66 : strO Try.prog 66 = false:=by kernel_rfl
theorem u866 : u8O Try.prog 66 = false:=by kernel_rfl
theorem em66 : emptyO Try.prog 66 = some (.sl 1 []):=by kernel_rfl
theorem sz73 : szO Try.prog 73 = some 1:=by kernel_rfl
theorem by73 : byO Try.prog 73 = some 24:=by kernel_rfl
theorem ze73 : zeroO Try.prog 73 = some [.slice none 0 0]:=by kernel_rfl
theorem ag73 : aggO Try.prog 73 = some false:=by kernel_rfl
theorem el73 : elO Try.prog 73 = some 52:=by kernel_rfl
theorem st73 : strO Try.prog 73 = false:=by kernel_rfl
theorem u873 : u8O Try.prog 73 = false:=by kernel_rfl
theorem em73 : emptyO Try.prog 73 = some (.sl 1 []):=by kernel_rfl
theorem sz79 : szO Try.prog 79 = some 2:=by kernel_rfl
theorem by79 : byO Try.prog 79 = some 32:=by kernel_rfl
theorem ze79 : zeroO Try.prog 79 = some [.slice none 0 0,.int .i64 0]:=by kernel_rfl
theorem ag79 : aggO Try.prog 79 = some true:=by kernel_rfl
theorem el79 : elO Try.prog 79 = none:=by kernel_rfl
theorem st79 : strO Try.prog 79 = false:=by kernel_rfl
theorem u879 : u8O Try.prog 79 = false:=by kernel_rfl
theorem em79 : emptyO Try.prog 79 = some (.sl 2 []):=by kernel_rfl
theorem fd79_0 : fldO Try.prog 79 0 = some (0,22):=by kernel_rfl
theorem fd79_1 : fldO Try.prog 79 1 = some (1,3):=by kernel_rfl
theorem pl79 : plO Try.prog 79 = some [(0,1),(1,1)]:=by kernel_rfl
theorem sz80 : szO Try.prog 80 = some 2:=by kernel_rfl
theorem by80 : byO Try.prog 80 = some 32:=by kernel_rfl
theorem ze80 : zeroO Try.prog 80 = some [.slice none 0 0,.int .i64 0]:=by kernel_rfl
theorem ag80 : aggO Try.prog 80 = some true:=by kernel_rfl
theorem el80 : elO Try.prog 80 = none:=by kernel_rfl
theorem st80 : strO Try.prog 80 = false:=by kernel_rfl
theorem u880 : u8O Try.prog 80 = false:=by kernel_rfl
theorem em80 : emptyO Try.prog 80 = some (.sl 2 []):=by kernel_rfl
theorem fd80_0 : fldO Try.prog 80 0 = some (0,22):=by kernel_rfl
theorem fd80_1 : fldO Try.prog 80 1 = some (1,3):=by kernel_rfl
theorem pl80 : plO Try.prog 80 = some [(0,1),(1,1)]:=by kernel_rfl
theorem sz85 : szO Try.prog 85 = some 1:=by kernel_rfl
theorem by85 : byO Try.prog 85 = some 8:=by kernel_rfl
theorem ze85 : zeroO Try.prog 85 = some [.pointer none]:=by kernel_rfl
theorem ag85 : aggO Try.prog 85 = some false:=by kernel_rfl
theorem el85 : elO Try.prog 85 = none:=by kernel_rfl
theorem st85 : strO Try.prog 85 = false:=by kernel_rfl
theorem u885 : u8O Try.prog 85 = false:=by kernel_rfl
theorem em85 : emptyO Try.prog 85 = some (.sl 1 []):=by kernel_rfl
theorem sz86 : szO Try.prog 86 = some 3:=by kernel_rfl
theorem by86 : byO Try.prog 86 = some 56:=by kernel_rfl
theorem ze86 : zeroO Try.prog 86 = some [.slice none 0 0,.slice none 0 0,.int .i64 0]:=by kernel_rfl
theorem ag86 : aggO Try.prog 86 = some true:=by kernel_rfl
theorem el86 : elO Try.prog 86 = none:=by kernel_rfl
theorem st86 : strO Try.prog 86 = false:=by kernel_rfl
theorem u886 : u8O Try.prog 86 = false:=by kernel_rfl
theorem em86 : emptyO Try.prog 86 = some (.sl 3 []):=by kernel_rfl
theorem fd86_0 : fldO Try.prog 86 0 = some (0,27):=by kernel_rfl
theorem fd86_1 : fldO Try.prog 86 1 = some (1,37):=by kernel_rfl
theorem fd86_2 : fldO Try.prog 86 2 = some (2,3):=by kernel_rfl
theorem pl86 : plO Try.prog 86 = some [(0,1),(1,1),(2,1)]:=by kernel_rfl
theorem sz87 : szO Try.prog 87 = some 3:=by kernel_rfl
theorem by87 : byO Try.prog 87 = some 56:=by kernel_rfl
theorem ze87 : zeroO Try.prog 87 = some [.slice none 0 0,.slice none 0 0,.int .i64 0]:=by kernel_rfl
theorem ag87 : aggO Try.prog 87 = some true:=by kernel_rfl
theorem el87 : elO Try.prog 87 = none:=by kernel_rfl
theorem st87 : strO Try.prog 87 = false:=by kernel_rfl
theorem u887 : u8O Try.prog 87 = false:=by kernel_rfl
theorem em87 : emptyO Try.prog 87 = some (.sl 3 []):=by kernel_rfl
theorem fd87_0 : fldO Try.prog 87 0 = some (0,27):=by kernel_rfl
theorem fd87_1 : fldO Try.prog 87 1 = some (1,37):=by kernel_rfl
theorem fd87_2 : fldO Try.prog 87 2 = some (2,3):=by kernel_rfl
theorem pl87 : plO Try.prog 87 = some [(0,1),(1,1),(2,1)]:=by kernel_rfl
theorem sz93 : szO Try.prog 93 = some 1:=by kernel_rfl
theorem by93 : byO Try.prog 93 = some 8:=by kernel_rfl
theorem ze93 : zeroO Try.prog 93 = some [.map none]:=by kernel_rfl
theorem ag93 : aggO Try.prog 93 = some false:=by kernel_rfl
theorem el93 : elO Try.prog 93 = none:=by kernel_rfl
theorem mo93 : mapO Try.prog 93 = some (9,3):=by kernel_rfl
theorem zv3 : zvO Try.prog 3 = some (.int .i64 0):=by kernel_rfl
theorem ik9 : intO Try.prog 9 = none:=by kernel_rfl
theorem st93 : strO Try.prog 93 = false:=by kernel_rfl
theorem u893 : u8O Try.prog 93 = false:=by kernel_rfl
theorem em93 : emptyO Try.prog 93 = some (.sl 1 []):=by kernel_rfl
theorem sz94 : szO Try.prog 94 = some 1:=by kernel_rfl
theorem by94 : byO Try.prog 94 = some 8:=by kernel_rfl
theorem ze94 : zeroO Try.prog 94 = some [.map none]:=by kernel_rfl
theorem ag94 : aggO Try.prog 94 = some false:=by kernel_rfl
theorem el94 : elO Try.prog 94 = none:=by kernel_rfl
theorem mo94 : mapO Try.prog 94 = some (9,3):=by kernel_rfl
theorem st94 : strO Try.prog 94 = false:=by kernel_rfl
theorem u894 : u8O Try.prog 94 = false:=by kernel_rfl
theorem em94 : emptyO Try.prog 94 = some (.sl 1 []):=by kernel_rfl
theorem sz112 : szO Try.prog 112 = some 1:=by kernel_rfl
theorem by112 : byO Try.prog 112 = some 24:=by kernel_rfl
theorem ze112 : zeroO Try.prog 112 = some [.slice none 0 0]:=by kernel_rfl
theorem ag112 : aggO Try.prog 112 = some false:=by kernel_rfl
theorem el112 : elO Try.prog 112 = some 3:=by kernel_rfl
theorem st112 : strO Try.prog 112 = false:=by kernel_rfl
theorem u8112 : u8O Try.prog 112 = false:=by kernel_rfl
theorem em112 : emptyO Try.prog 112 = some (.sl 1 []):=by kernel_rfl
theorem sz113 : szO Try.prog 113 = some 2:=by kernel_rfl
theorem by113 : byO Try.prog 113 = some 32:=by kernel_rfl
theorem ze113 : zeroO Try.prog 113 = some [.bool false,.slice none 0 0]:=by kernel_rfl
theorem ag113 : aggO Try.prog 113 = some true:=by kernel_rfl
theorem el113 : elO Try.prog 113 = none:=by kernel_rfl
theorem st113 : strO Try.prog 113 = false:=by kernel_rfl
theorem u8113 : u8O Try.prog 113 = false:=by kernel_rfl
theorem em113 : emptyO Try.prog 113 = some (.sl 2 []):=by kernel_rfl
theorem fd113_0 : fldO Try.prog 113 0 = some (0,4):=by kernel_rfl
theorem fd113_1 : fldO Try.prog 113 1 = some (1,112):=by kernel_rfl
theorem pl113 : plO Try.prog 113 = some [(0,1),(1,1)]:=by kernel_rfl
theorem sz114 : szO Try.prog 114 = some 2:=by kernel_rfl
theorem by114 : byO Try.prog 114 = some 32:=by kernel_rfl
theorem ze114 : zeroO Try.prog 114 = some [.bool false,.slice none 0 0]:=by kernel_rfl
theorem ag114 : aggO Try.prog 114 = some true:=by kernel_rfl
theorem el114 : elO Try.prog 114 = none:=by kernel_rfl
theorem st114 : strO Try.prog 114 = false:=by kernel_rfl
theorem u8114 : u8O Try.prog 114 = false:=by kernel_rfl
theorem em114 : emptyO Try.prog 114 = some (.sl 2 []):=by kernel_rfl
theorem fd114_0 : fldO Try.prog 114 0 = some (0,4):=by kernel_rfl
theorem fd114_1 : fldO Try.prog 114 1 = some (1,112):=by kernel_rfl
theorem pl114 : plO Try.prog 114 = some [(0,1),(1,1)]:=by kernel_rfl
theorem sz117 : szO Try.prog 117 = some 1:=by kernel_rfl
theorem by117 : byO Try.prog 117 = some 4:=by kernel_rfl
theorem ze117 : zeroO Try.prog 117 = some [.int .u32 0]:=by kernel_rfl
theorem ag117 : aggO Try.prog 117 = some false:=by kernel_rfl
theorem el117 : elO Try.prog 117 = none:=by kernel_rfl
theorem in117 : intO Try.prog 117 = some .u32:=by kernel_rfl
theorem st117 : strO Try.prog 117 = false:=by kernel_rfl
theorem u8117 : u8O Try.prog 117 = false:=by kernel_rfl
theorem em117 : emptyO Try.prog 117 = some (.ints .u32 []):=by kernel_rfl
theorem sz118 : szO Try.prog 118 = some 3:=by kernel_rfl
theorem by118 : byO Try.prog 118 = some 56:=by kernel_rfl
theorem ze118 : zeroO Try.prog 118 = some [.bool false,.slice none 0 0,.slice none 0 0]:=by kernel_rfl
theorem ag118 : aggO Try.prog 118 = some true:=by kernel_rfl
theorem el118 : elO Try.prog 118 = none:=by kernel_rfl
theorem st118 : strO Try.prog 118 = false:=by kernel_rfl
theorem u8118 : u8O Try.prog 118 = false:=by kernel_rfl
theorem em118 : emptyO Try.prog 118 = some (.sl 3 []):=by kernel_rfl
theorem fd118_0 : fldO Try.prog 118 0 = some (0,114):=by kernel_rfl
theorem fd118_1 : fldO Try.prog 118 1 = some (2,112):=by kernel_rfl
theorem pl118 : plO Try.prog 118 = some [(0,2),(2,1)]:=by kernel_rfl
theorem sz119 : szO Try.prog 119 = some 3:=by kernel_rfl
theorem by119 : byO Try.prog 119 = some 56:=by kernel_rfl
theorem ze119 : zeroO Try.prog 119 = some [.bool false,.slice none 0 0,.slice none 0 0]:=by kernel_rfl
theorem ag119 : aggO Try.prog 119 = some true:=by kernel_rfl
theorem el119 : elO Try.prog 119 = none:=by kernel_rfl
theorem st119 : strO Try.prog 119 = false:=by kernel_rfl
theorem u8119 : u8O Try.prog 119 = false:=by kernel_rfl
theorem em119 : emptyO Try.prog 119 = some (.sl 3 []):=by kernel_rfl
theorem fd119_0 : fldO Try.prog 119 0 = some (0,114):=by kernel_rfl
theorem fd119_1 : fldO Try.prog 119 1 = some (2,112):=by kernel_rfl
theorem pl119 : plO Try.prog 119 = some [(0,2),(2,1)]:=by kernel_rfl
theorem sz124 : szO Try.prog 124 = some 1:=by kernel_rfl
theorem by124 : byO Try.prog 124 = some 8:=by kernel_rfl
theorem ze124 : zeroO Try.prog 124 = some [.int .u64 0]:=by kernel_rfl
theorem ag124 : aggO Try.prog 124 = some false:=by kernel_rfl
theorem el124 : elO Try.prog 124 = none:=by kernel_rfl
theorem in124 : intO Try.prog 124 = some .u64:=by kernel_rfl
theorem st124 : strO Try.prog 124 = false:=by kernel_rfl
theorem u8124 : u8O Try.prog 124 = false:=by kernel_rfl
theorem em124 : emptyO Try.prog 124 = some (.ints .u64 []):=by kernel_rfl
theorem sz135 : szO Try.prog 135 = some 1:=by kernel_rfl
theorem by135 : byO Try.prog 135 = some 24:=by kernel_rfl
theorem ze135 : zeroO Try.prog 135 = some [.slice none 0 0]:=by kernel_rfl
theorem ag135 : aggO Try.prog 135 = some false:=by kernel_rfl
theorem el135 : elO Try.prog 135 = some 4:=by kernel_rfl
theorem st135 : strO Try.prog 135 = false:=by kernel_rfl
theorem u8135 : u8O Try.prog 135 = false:=by kernel_rfl
theorem em135 : emptyO Try.prog 135 = some (.sl 1 []):=by kernel_rfl
theorem sz158 : szO Try.prog 158 = some 1:=by kernel_rfl
theorem by158 : byO Try.prog 158 = some 8:=by kernel_rfl
theorem ze158 : zeroO Try.prog 158 = some [.pointer none]:=by kernel_rfl
theorem ag158 : aggO Try.prog 158 = some false:=by kernel_rfl
theorem el158 : elO Try.prog 158 = none:=by kernel_rfl
theorem st158 : strO Try.prog 158 = false:=by kernel_rfl
theorem u8158 : u8O Try.prog 158 = false:=by kernel_rfl
theorem em158 : emptyO Try.prog 158 = some (.sl 1 []):=by kernel_rfl
attribute [go_sem] sz2 by2 ze2 ag2 el2 in2 st2 u82 em2 Try.underlying2 sz3 by3 ze3 ag3 el3 in3 st3 u83 em3 Try.underlying3 sz4 by4 ze4 ag4 el4 st4 u84 em4 Try.underlying4 sz5 by5 ze5 ag5 el5 in5 st5 u85 em5 Try.underlying5 sz9 by9 ze9 ag9 el9 st9 u89 em9 Try.underlying9 sz12 by12 ze12 ag12 el12 in12 st12 u812 em12 Try.underlying12 sz13 by13 ze13 ag13 el13 st13 u813 em13 fd13_0 fd13_1 pl13 Try.underlying13 sz21 by21 ze21 ag21 el21 in21 st21 u821 em21 Try.underlying21 sz22 by22 ze22 ag22 el22 st22 u822 em22 Try.underlying22 sz23 by23 ze23 ag23 el23 st23 u823 em23 Try.underlying23 sz25 by25 ze25 ag25 el25 st25 u825 em25 Try.underlying25 sz26 by26 ze26 ag26 el26 st26 u826 em26 fd26_0 pl26 Try.underlying26 sz27 by27 ze27 ag27 el27 st27 u827 em27 fd27_0 pl27 Try.underlying27 sz30 by30 ze30 ag30 el30 st30 u830 em30 Try.underlying30 sz31 by31 ze31 ag31 el31 st31 u831 em31 fd31_0 fd31_1 pl31 Try.underlying31 sz32 by32 ze32 ag32 el32 st32 u832 em32 fd32_0 fd32_1 pl32 Try.underlying32 sz33 by33 ze33 ag33 el33 st33 u833 em33 fd33_0 fd33_1 fd33_2 fd33_3 fd33_4 pl33 Try.underlying33 sz34 by34 ze34 ag34 el34 st34 u834 em34 fd34_0 fd34_1 fd34_2 fd34_3 fd34_4 pl34 Try.underlying34 sz37 by37 ze37 ag37 el37 st37 u837 em37 Try.underlying37 sz38 by38 ze38 ag38 el38 st38 u838 em38 fd38_0 fd38_1 pl38 Try.underlying38 sz39 by39 ze39 ag39 el39 st39 u839 em39 fd39_0 fd39_1 pl39 Try.underlying39 sz42 by42 ze42 ag42 el42 in42 st42 u842 em42 Try.underlying42 sz51 by51 ze51 ag51 el51 st51 u851 em51 Try.underlying51 sz52 by52 ze52 ag52 el52 st52 u852 em52 Try.underlying52 sz53 by53 ze53 ag53 el53 st53 u853 em53 fd53_0 fd53_1 fd53_2 fd53_3 fd53_4 fd53_5 fd53_6 fd53_7 fd53_8 fd53_9 pl53 Try.underlying53 sz54 by54 ze54 ag54 el54 st54 u854 em54 fd54_0 fd54_1 fd54_2 fd54_3 fd54_4 fd54_5 fd54_6 fd54_7 fd54_8 fd54_9 pl54 Try.underlying54 sz58 by58 ze58 ag58 el58 st58 u858 em58 Try.underlying58 sz66 by66 ze66 ag66 el66 st66 u866 em66 Try.underlying66 sz73 by73 ze73 ag73 el73 st73 u873 em73 Try.underlying73 sz79 by79 ze79 ag79 el79 st79 u879 em79 fd79_0 fd79_1 pl79 Try.underlying79 sz80 by80 ze80 ag80 el80 st80 u880 em80 fd80_0 fd80_1 pl80 Try.underlying80 sz85 by85 ze85 ag85 el85 st85 u885 em85 Try.underlying85 sz86 by86 ze86 ag86 el86 st86 u886 em86 fd86_0 fd86_1 fd86_2 pl86 Try.underlying86 sz87 by87 ze87 ag87 el87 st87 u887 em87 fd87_0 fd87_1 fd87_2 pl87 Try.underlying87 sz93 by93 ze93 ag93 el93 mo93 zv3 ik9 st93 u893 em93 Try.underlying93 sz94 by94 ze94 ag94 el94 mo94 st94 u894 em94 Try.underlying94 sz112 by112 ze112 ag112 el112 st112 u8112 em112 Try.underlying112 sz113 by113 ze113 ag113 el113 st113 u8113 em113 fd113_0 fd113_1 pl113 Try.underlying113 sz114 by114 ze114 ag114 el114 st114 u8114 em114 fd114_0 fd114_1 pl114 Try.underlying114 sz117 by117 ze117 ag117 el117 in117 st117 u8117 em117 Try.underlying117 sz118 by118 ze118 ag118 el118 st118 u8118 em118 fd118_0 fd118_1 pl118 Try.underlying118 sz119 by119 ze119 ag119 el119 st119 u8119 em119 fd119_0 fd119_1 pl119 Try.underlying119 sz124 by124 ze124 ag124 el124 in124 st124 u8124 em124 Try.underlying124 sz135 by135 ze135 ag135 el135 st135 u8135 em135 Try.underlying135 sz158 by158 ze158 ag158 el158 st158 u8158 em158 Try.underlying158
end Go.Proofs.Ytncededjmcmidaa

namespace Go.Proofs.NatL
set_option linter.unusedSimpArgs false
set_option linter.unusedVariables false

def trimL (xs : List Int) : List Int:=(xs.reverse.dropWhile (· == 0)).reverse

theorem trimL_snoc (xs : List Int) (x : Int) : trimL (xs ++ [x]) = if x = 0 then trimL xs else xs ++ [x]:=by
 unfold trimL
 by_cases h : x = 0 <;> simp [h]

theorem split_last (xs : List Int) (h : 0 < xs.length) : xs = xs.take (xs.length - 1) ++ [xs.getD (xs.length - 1) 0]:=by
 have h1 : xs.getD (xs.length - 1) 0 = xs[xs.length - 1]:=by simp [List.getD_eq_getElem?_getD,List.getElem?_eq_getElem (show xs.length - 1 < xs.length by omega)]
 rw [h1,← List.take_succ_eq_append_getElem (by omega)]
 rw [show xs.length - 1 + 1 = xs.length by omega,List.take_length]

theorem trimL_drop (xs : List Int) (h : 0 < xs.length) (h0 : xs.getD (xs.length - 1) 0 = 0) : trimL (xs.take (xs.length - 1)) = trimL xs:=by
 conv=>rhs; rw [split_last xs h,trimL_snoc,if_pos h0]

theorem trimL_stop (xs : List Int) (h : xs.length = 0 ∨ xs.getD (xs.length - 1) 0 ≠ 0) : trimL xs = xs:=by
 by_cases h0 : xs.length = 0
 ·have : xs = []:=List.eq_nil_of_length_eq_zero h0
  subst this; rfl
 ·rcases h with h | h
  ·exact absurd h h0
  ·conv=>lhs; rw [split_last xs (by omega),trimL_snoc,if_neg h]
   exact (split_last xs (by omega)).symm

def V (B : Nat) : List Int → Nat
 | []=>0
 | x :: xs=>x.toNat + B * V B xs

def InB (B : Nat) (xs : List Int) : Prop:=∀ x ∈ xs,0 ≤ x ∧ x < B

def dgF (B : Nat) : Nat → Nat → List Int
 | 0,_=>[]
 | f + 1,n=>if n = 0 then [] else ((n % B : Nat) : Int) :: dgF B f (n / B)
def dg (B n : Nat) : List Int:=dgF B n n

theorem V_append (B : Nat) (xs ys : List Int) : V B (xs ++ ys) = V B xs + B ^ xs.length * V B ys:=by
 induction xs with
 | nil=>simp [V]
 | cons x xs ih=>simp only [List.cons_append,V,ih,List.length_cons,Nat.pow_succ]; rw [Nat.mul_add,Nat.add_assoc,← Nat.mul_assoc,Nat.mul_comm B (B ^ xs.length)]

theorem V_snoc (B : Nat) (xs : List Int) (x : Int) : V B (xs ++ [x]) = V B xs + B ^ xs.length * x.toNat:=by
 rw [V_append]; simp [V]

theorem V_lt (B : Nat) (hB : 0 < B) (xs : List Int) (h : InB B xs) : V B xs < B ^ xs.length:=by
 induction xs with
 | nil=>simp [V]
 | cons x xs ih =>
  have h1:=h x (List.mem_cons_self ..)
  have h2:=ih fun y hy=>h y (List.mem_cons_of_mem _ hy)
  simp only [V,List.length_cons,Nat.pow_succ]
  have h3 : x.toNat < B:=by omega
  have h4 : B * V B xs + B ≤ B * B ^ xs.length:=by
   have : B * (V B xs + 1) ≤ B * B ^ xs.length:=Nat.mul_le_mul_left _ h2
   rwa [Nat.mul_add,Nat.mul_one] at this
  rw [Nat.mul_comm (B ^ xs.length) B]
  omega

theorem dgF_fuel (B : Nat) (hB : 2 ≤ B) : ∀ f n,n ≤ f → dgF B f n = dgF B n n:=by
 intro f
 induction f using Nat.strongRecOn with
 | _ f ih =>
  intro n hn
  match f,n with
  | 0,0=>rfl
  | f + 1,0=>simp [dgF]
  | f + 1,n + 1 =>
   simp only [dgF,Nat.succ_ne_zero,if_false,Nat.add_eq_zero_iff,Nat.one_ne_zero,and_false]
   have hlt : (n + 1) / B ≤ n:=by
    have : (n + 1) / B < n + 1:=Nat.div_lt_self (by omega) (by omega)
    omega
   rw [ih f (by omega) _ (by omega)]
   by_cases hnf : n = f
   ·subst hnf
    rw [ih n (by omega) _ hlt]
   ·rw [ih n (by omega) _ hlt]

theorem dg_zero (B : Nat) : dg B 0 = []:=rfl

theorem dg_pos (B n : Nat) (hB : 2 ≤ B) (hn : 0 < n) : dg B n = ((n % B : Nat) : Int) :: dg B (n / B):=by
 obtain ⟨m,rfl⟩ : ∃ m,n = m + 1:=⟨n - 1,by omega⟩
 have h : dg B (m + 1) = (((m + 1) % B : Nat) : Int) :: dgF B m ((m + 1) / B):=by simp [dg,dgF]
 rw [h]
 congr 1
 have hlt : (m + 1) / B ≤ m:=by
  have : (m + 1) / B < m + 1:=Nat.div_lt_self (by omega) (by omega)
  omega
 exact dgF_fuel B hB m _ hlt

theorem V_dg (B : Nat) (hB : 2 ≤ B) (n : Nat) : V B (dg B n) = n:=by
 induction n using Nat.strongRecOn with
 | _ n ih =>
  by_cases hn : n = 0
  ·subst hn; rfl
  ·rw [dg_pos B n hB (by omega),V,ih _ (Nat.div_lt_self (by omega) (by omega))]
   simp only [Int.toNat_natCast]
   exact Nat.mod_add_div n B

theorem InB_dg (B : Nat) (hB : 2 ≤ B) (n : Nat) : InB B (dg B n):=by
 induction n using Nat.strongRecOn with
 | _ n ih =>
  by_cases hn : n = 0
  ·subst hn; intro x hx; cases hx
  ·rw [dg_pos B n hB (by omega)]
   intro x hx
   rcases List.mem_cons.1 hx with rfl | hx
   ·have:=Nat.mod_lt n (show 0 < B by omega); omega
   ·exact ih _ (Nat.div_lt_self (by omega) (by omega)) x hx

def Trd (xs : List Int) : Prop:=xs.length = 0 ∨ xs.getD (xs.length - 1) 0 ≠ 0

theorem trd_cons (x : Int) (xs : List Int) (h : Trd xs) (hx : xs = [] → x ≠ 0) : Trd (x :: xs):=by
 right
 cases xs with
 | nil=>simpa using hx rfl
 | cons y ys =>
  rcases h with h | h
  ·simp at h
  ·simpa using h

theorem trd_tail (x : Int) (xs : List Int) (h : Trd (x :: xs)) : Trd xs:=by
 cases xs with
 | nil=>left; rfl
 | cons y ys =>
  right
  rcases h with h | h
  ·simp at h
  ·simpa using h

theorem dg_trd (B : Nat) (hB : 2 ≤ B) (n : Nat) : Trd (dg B n):=by
 induction n using Nat.strongRecOn with
 | _ n ih =>
  by_cases hn : n = 0
  ·subst hn; left; rfl
  ·rw [dg_pos B n hB (by omega)]
   refine trd_cons _ _ (ih _ (Nat.div_lt_self (by omega) (by omega))) fun he=>?_
   have h0 : n / B = 0:=by
    by_cases h : n / B = 0
    ·exact h
    ·rw [dg_pos B _ hB (Nat.pos_of_ne_zero h)] at he; cases he
   have : n % B = n:=Nat.mod_eq_of_lt (by rcases Nat.lt_or_ge n B with h | h; { exact h }; have:=Nat.div_pos h (by omega); omega)
   rw [this]; omega

theorem dg_V (B : Nat) (hB : 2 ≤ B) : ∀ xs : List Int,InB B xs → Trd xs → dg B (V B xs) = xs
 | [],_,_=>rfl
 | x :: xs,h,ht=>by
  have h1:=h x (List.mem_cons_self ..)
  have h2 : InB B xs:=fun y hy=>h y (List.mem_cons_of_mem _ hy)
  have ih:=dg_V B hB xs h2 (trd_tail x xs ht)
  have hpos : 0 < V B (x :: xs):=by
   rcases Nat.eq_zero_or_pos (V B (x :: xs)) with h0 | h0
   ·exfalso
    simp only [V] at h0
    have hx0 : x = 0:=by omega
    have hv0 : V B xs = 0:=by
     have : B * V B xs = 0:=by omega
     rcases Nat.mul_eq_zero.1 this with h | h
     ·omega
     ·exact h
    rw [hv0] at ih
    have hxs : xs = []:=ih.symm
    subst hxs
    rcases ht with ht | ht
    ·simp at ht
    ·simp at ht; exact ht hx0
   ·exact h0
  rw [dg_pos B _ hB hpos]
  have hm : V B (x :: xs) % B = x.toNat:=by
   simp only [V]
   rw [Nat.add_mul_mod_self_left]
   exact Nat.mod_eq_of_lt (by omega)
  have hd : V B (x :: xs) / B = V B xs:=by
   simp only [V]
   rw [Nat.add_mul_div_left _ _ (by omega),Nat.div_eq_of_lt (by omega)]; simp
  rw [hm,hd,ih]
  congr 1
  omega

theorem V_trimL (B : Nat) (xs : List Int) : V B (trimL xs) = V B xs:=by
 generalize hn : xs.length = n
 induction n generalizing xs with
 | zero=>have : xs = []:=List.eq_nil_of_length_eq_zero hn; subst this; rfl
 | succ n ih =>
  rw [split_last xs (by omega),trimL_snoc]
  split
  ·rename_i h
   rw [ih _ (by simp; omega),V_snoc,h]; simp
  ·rfl

theorem trimL_trd (xs : List Int) : Trd (trimL xs):=by
 generalize hn : xs.length = n
 induction n generalizing xs with
 | zero=>have : xs = []:=List.eq_nil_of_length_eq_zero hn; subst this; left; rfl
 | succ n ih =>
  rw [split_last xs (by omega),trimL_snoc]
  split
  ·exact ih _ (by simp; omega)
  ·rename_i h; right; simpa using h

theorem trimL_mem (xs : List Int) : ∀ x ∈ trimL xs,x ∈ xs:=by
 intro x hx
 unfold trimL at hx
 have:=(List.dropWhile_sublist (l:=xs.reverse) (· == 0)).mem (List.mem_reverse.1 hx)
 exact List.mem_reverse.1 this

theorem trimL_eq (B : Nat) (hB : 2 ≤ B) (xs : List Int) (h : InB B xs) : trimL xs = dg B (V B xs):=by
 rw [← V_trimL B xs,dg_V B hB _ (fun x hx=>h x (trimL_mem xs x hx)) (trimL_trd xs)]

end Go.Proofs.NatL

namespace Go.Proofs.NatL
set_option linter.unusedSimpArgs false
set_option linter.unusedVariables false

theorem getD_eq (xs : List Int) (i : Nat) (h : i < xs.length) : xs.getD i 0 = xs[i]:=by simp [List.getD_eq_getElem?_getD,List.getElem?_eq_getElem h]

theorem InB_getD {B : Nat} (hB : 0 < B) {xs : List Int} (h : InB B xs) (i : Nat) : 0 ≤ xs.getD i 0 ∧ xs.getD i 0 < B:=by
 by_cases hi : i < xs.length
 ·rw [getD_eq xs i hi]; exact h _ (List.getElem_mem hi)
 ·rw [List.getD_eq_getElem?_getD,List.getElem?_eq_none (by omega)]; simp; omega

theorem V_take_succ (B : Nat) (xs : List Int) (i : Nat) (h : i < xs.length) : V B (xs.take (i + 1)) = V B (xs.take i) + B ^ i * (xs.getD i 0).toNat:=by
 rw [List.take_succ_eq_append_getElem h,V_snoc,getD_eq xs i h]
 congr 3
 simp; omega

theorem V_take_ge (B : Nat) (xs : List Int) (i : Nat) (h : xs.length ≤ i) : V B (xs.take (i + 1)) = V B (xs.take i):=by
 rw [List.take_of_length_le (by omega),List.take_of_length_le h]

theorem V_drop (B : Nat) (xs : List Int) (i : Nat) (h : i < xs.length) : V B (xs.drop i) = (xs.getD i 0).toNat + B * V B (xs.drop (i + 1)):=by
 rw [List.drop_eq_getElem_cons h,V,getD_eq xs i h]

theorem V_split (B : Nat) (xs : List Int) (i : Nat) (h : i ≤ xs.length) : V B xs = V B (xs.take i) + B ^ i * V B (xs.drop i):=by
 have:=V_append B (xs.take i) (xs.drop i)
 rw [List.take_append_drop,List.length_take,Nat.min_eq_left h] at this
 exact this

theorem InB_take {B : Nat} {xs : List Int} (h : InB B xs) (i : Nat) : InB B (xs.take i):=fun x hx=>h x (List.mem_of_mem_take hx)
theorem InB_snoc {B : Nat} {xs : List Int} (h : InB B xs) {x : Int} (h0 : 0 ≤ x) (h1 : x < B) : InB B (xs ++ [x]):=by
 intro y hy
 rcases List.mem_append.1 hy with hy | hy
 ·exact h y hy
 ·simp at hy; subst hy; exact ⟨h0,h1⟩
theorem InB_set {B : Nat} {xs : List Int} (h : InB B xs) (i : Nat) {x : Int} (h0 : 0 ≤ x) (h1 : x < B) : InB B (xs.set i x):=by
 intro y hy
 rcases List.mem_or_eq_of_mem_set hy with hy | rfl
 ·exact h y hy
 ·exact ⟨h0,h1⟩
theorem InB_nil (B : Nat) : InB B []:=fun _ hx=>by cases hx
theorem InB_replicate {B : Nat} (hB : 0 < B) (n : Nat) : InB B (List.replicate n 0):=fun x hx=>by
 have:=List.eq_of_mem_replicate hx; subst this; exact ⟨by omega,by omega⟩
theorem cmp_at {B : Nat} (hB : 0 < B) {xs ys : List Int} (hx : InB B xs) (hy : InB B ys) (hl : xs.length = ys.length) (i : Nat) (hi : i < xs.length) (hd : xs.drop (i + 1) = ys.drop (i + 1)) (hlt : xs.getD i 0 < ys.getD i 0) : V B xs < V B ys:=by
 rw [V_split B xs i (by omega),V_split B ys i (by omega),V_drop B xs i hi,V_drop B ys i (by omega),hd]
 have h1:=V_lt B hB _ (InB_take hx i)
 rw [List.length_take,Nat.min_eq_left (by omega)] at h1
 have h2:=(InB_getD hB hx i).1
 have h3 : (xs.getD i 0).toNat + 1 ≤ (ys.getD i 0).toNat:=by omega
 have h4 : B ^ i * ((xs.getD i 0).toNat + B * V B (ys.drop (i + 1)) + 1) ≤ B ^ i * ((ys.getD i 0).toNat + B * V B (ys.drop (i + 1))):=Nat.mul_le_mul_left _ (by omega)
 rw [Nat.mul_add,Nat.mul_one] at h4
 omega

theorem drop_step {xs ys : List Int} (hl : xs.length = ys.length) (i : Nat) (hi : i < xs.length) (hd : xs.drop (i + 1) = ys.drop (i + 1)) (he : xs.getD i 0 = ys.getD i 0) : xs.drop i = ys.drop i:=by
 rw [List.drop_eq_getElem_cons hi,List.drop_eq_getElem_cons (show i < ys.length by omega),hd]
 rw [getD_eq xs i hi,getD_eq ys i (by omega)] at he
 rw [he]

theorem len_lt {B : Nat} (hB : 0 < B) {xs ys : List Int} (hx : InB B xs) (hy : InB B ys) (ht : Trd ys) (hl : xs.length < ys.length) : V B xs < V B ys:=by
 rcases ht with ht | ht
 ·omega
 ·have h1:=V_lt B hB xs hx
  have h2:=V_split B ys (ys.length - 1) (by omega)
  rw [V_drop B ys _ (by omega)] at h2
  have h3:=(InB_getD hB hy (ys.length - 1)).1
  have h4 : 1 ≤ (ys.getD (ys.length - 1) 0).toNat:=by omega
  have h5 : B ^ xs.length ≤ B ^ (ys.length - 1):=Nat.pow_le_pow_right hB (by omega)
  have h6 : B ^ (ys.length - 1) * 1 ≤ B ^ (ys.length - 1) * ((ys.getD (ys.length - 1) 0).toNat + B * V B (ys.drop (ys.length - 1 + 1))):=Nat.mul_le_mul_left _ (by omega)
  omega

def cmp3 (a b : Nat) : Int:=if a < b then -1 else if a = b then 0 else 1

theorem dg_len_le {B : Nat} (hB : 2 ≤ B) (n k : Nat) (h : n < B ^ k) : (dg B n).length ≤ k:=by
 induction k generalizing n with
 | zero=>simp at h; subst h; simp [dg_zero]
 | succ k ih =>
  by_cases hn : n = 0
  ·subst hn; simp [dg_zero]
  ·rw [dg_pos B n hB (by omega),List.length_cons]
   have:=ih (n / B) (by rw [Nat.div_lt_iff_lt_mul (by omega)]; rwa [← Nat.pow_succ])
   omega
theorem dg_len_gt {B : Nat} (hB : 2 ≤ B) (n k : Nat) (h : B ^ k ≤ n) : k < (dg B n).length:=by
 rcases Nat.lt_or_ge k (dg B n).length with h1 | h1
 ·exact h1
 ·exfalso
  have:=V_lt B (by omega) _ (InB_dg B hB n)
  rw [V_dg B hB] at this
  have h2 : B ^ (dg B n).length ≤ B ^ k:=Nat.pow_le_pow_right (by omega) h1
  omega

theorem V_take_getD (B : Nat) (xs : List Int) (i : Nat) : V B (xs.take (i + 1)) = V B (xs.take i) + B ^ i * (xs.getD i 0).toNat:=by
 by_cases h : i < xs.length
 ·exact V_take_succ B xs i h
 ·rw [V_take_ge B xs i (by omega),List.getD_eq_getElem?_getD,List.getElem?_eq_none (by omega)]; simp

theorem carry_step (B i v c t r q x : Nat) (h : v + B ^ i * c = t) (hs : r + B * q = c + x) : v + B ^ i * r + B ^ (i + 1) * q = t + B ^ i * x:=by
 have e : B ^ (i + 1) * q = B ^ i * (B * q):=by rw [Nat.pow_succ,Nat.mul_assoc]
 have e2 : B ^ i * r + B ^ i * (B * q) = B ^ i * c + B ^ i * x:=by rw [← Nat.mul_add,hs,Nat.mul_add]
 rw [e,Nat.add_assoc,e2,← Nat.add_assoc,h]

theorem add_step (B i : Nat) (o us vs : List Int) (c r q x y : Int) (h : V B o + B ^ i * c.toNat = V B (us.take i) + V B (vs.take i)) (hl : o.length = i) (hx : x = us.getD i 0) (hy : y = vs.getD i 0)
  (hr : r.toNat + B * q.toNat = c.toNat + (x.toNat + y.toNat)) : V B (o ++ [r]) + B ^ (i + 1) * q.toNat = V B (us.take (i + 1)) + V B (vs.take (i + 1)):=by
 have e:=carry_step B i _ _ _ _ _ _ h hr
 rw [V_snoc,hl,V_take_getD,V_take_getD,e,← hx,← hy,Nat.mul_add]
 omega

theorem sub_step (B i : Nat) (o xs ys : List Int) (c d q x y : Int) (h : V B o + V B (ys.take i) = V B (xs.take i) + B ^ i * c.toNat) (hl : o.length = i) (hx : x = xs.getD i 0) (hy : y = ys.getD i 0)
  (hr : c.toNat + (d.toNat + y.toNat) = x.toNat + B * q.toNat) : V B (o ++ [d]) + V B (ys.take (i + 1)) = V B (xs.take (i + 1)) + B ^ (i + 1) * q.toNat:=by
 have e : B ^ (i + 1) * q.toNat = B ^ i * (B * q.toNat):=by rw [Nat.pow_succ,Nat.mul_assoc]
 have e2 : B ^ i * c.toNat + (B ^ i * d.toNat + B ^ i * y.toNat) = B ^ i * x.toNat + B ^ i * (B * q.toNat):=by rw [← Nat.mul_add,← Nat.mul_add,hr,Nat.mul_add]
 rw [V_snoc,hl,V_take_getD,V_take_getD,← hx,← hy,e]
 omega

theorem sub_end (B : Nat) (hB : 0 < B) (o xs ys : List Int) (c : Int) (bo : InB B o) (hl : o.length = xs.length) (hy : ys.length ≤ xs.length) (hv : V B ys ≤ V B xs) (hc : c ≤ 1) (h : V B o + V B (ys.take o.length) = V B (xs.take o.length) + B ^ o.length * c.toNat) : V B o = V B xs - V B ys:=by
 rw [List.take_of_length_le (by omega),List.take_of_length_le (by omega)] at h
 have h1:=V_lt B hB o bo
 have : c.toNat = 0 ∨ c.toNat = 1:=by omega
 rcases this with e | e
 ·rw [e] at h; simp at h; omega
 ·rw [e] at h; simp at h; omega

theorem getD_ge (xs : List Int) (i : Nat) (h : xs.length ≤ i) : xs.getD i 0 = 0:=by
 rw [List.getD_eq_getElem?_getD,List.getElem?_eq_none h]; rfl

theorem trd_of_ge {B : Nat} (hB : 0 < B) (o : List Int) (bo : InB B o) (h : B ^ (o.length - 1) ≤ V B o) : Trd o:=by
 by_cases h0 : o.length = 0
 ·exact .inl h0
 ·right
  intro hz
  have h1:=V_split B o (o.length - 1) (by omega)
  rw [V_drop B o _ (by omega),hz,show o.length - 1 + 1 = o.length by omega,List.drop_length] at h1
  simp [V] at h1
  have h2:=V_lt B hB _ (InB_take bo (o.length - 1))
  rw [List.length_take,Nat.min_eq_left (by omega)] at h2
  omega
theorem V_ge_of_trd {B : Nat} (hB : 0 < B) (o : List Int) (bo : InB B o) (h : Trd o) (h0 : 0 < o.length) : B ^ (o.length - 1) ≤ V B o:=by
 rcases h with h | h
 ·omega
 ·have h1:=V_split B o (o.length - 1) (by omega)
  rw [V_drop B o _ (by omega)] at h1
  have h2:=(InB_getD hB bo (o.length - 1)).1
  have h3 : B ^ (o.length - 1) * 1 ≤ B ^ (o.length - 1) * ((o.getD (o.length - 1) 0).toNat + B * V B (o.drop (o.length - 1 + 1))):=Nat.mul_le_mul_left _ (by omega)
  omega
theorem InB_app {B : Nat} {xs ys : List Int} (h : InB B xs) (h2 : InB B ys) : InB B (xs ++ ys):=fun x hx=>by
 rcases List.mem_append.1 hx with hx | hx
 ·exact h x hx
 ·exact h2 x hx
theorem InB_two {B : Nat} {x y : Int} (h1 : 0 ≤ x ∧ x < B) (h2 : 0 ≤ y ∧ y < B) : InB B [x,y]:=fun z hz=>by
 simp at hz; rcases hz with rfl | rfl <;> assumption
theorem V_le_len {B : Nat} (hB : 0 < B) {xs ys : List Int} (bx : InB B xs) (by' : InB B ys) (ty : Trd ys) (hv : V B ys ≤ V B xs) : ys.length ≤ xs.length:=by
 rcases Nat.lt_or_ge xs.length ys.length with h | h
 ·have:=len_lt hB bx by' ty h; omega
 ·exact h

end Go.Proofs.NatL

namespace Go.Proofs.NatL
set_option linter.unusedSimpArgs false
set_option linter.unusedVariables false
open Go.Abs

theorem shrI_lit (k : IntKind) (x : Int) (n : Nat) (h : n ≤ k.bits) : shrI k x (n : Int) = x / 2 ^ n:=by
 have : Nat.min ((n : Int)).toNat k.bits = n:=by simp [Nat.min_eq_left h]
 rw [shrI,this,Int.fdiv_eq_ediv_of_nonneg _ (by exact Int.le_of_lt (Int.pow_pos (by omega)))]
theorem shr32 (x : Int) : shrI .u64 x 32 = x / 4294967296:=shrI_lit .u64 x 32 (by decide)
end Go.Proofs.NatL

namespace Go.Proofs.NatL
set_option linter.unusedSimpArgs false
set_option linter.unusedVariables false
open Go.Abs

theorem tmod32 (n : Nat) : Int.tmod (n : Int) 32 = ((n % 32 : Nat) : Int):=by
 rw [Int.tmod_eq_emod_of_nonneg (by omega)]; omega
theorem tdiv32 (n : Nat) : Int.tdiv (n : Int) 32 = ((n / 32 : Nat) : Int):=by
 rw [Int.tdiv_eq_ediv_of_nonneg (by omega)]; omega

theorem V_digit (B : Nat) (hB : 0 < B) (xs : List Int) (h : InB B xs) (i : Nat) : V B xs / B ^ i % B = (xs.getD i 0).toNat:=by
 by_cases hi : i < xs.length
 ·have h1:=V_split B xs i (by omega)
  have h2:=V_lt B hB _ (InB_take h i)
  rw [List.length_take,Nat.min_eq_left (by omega)] at h2
  rw [h1,Nat.add_mul_div_left _ _ (Nat.pow_pos hB),Nat.div_eq_of_lt h2,Nat.zero_add,V_drop B xs i hi,Nat.add_mul_mod_self_left]
  exact Nat.mod_eq_of_lt (by have:=InB_getD hB h i; omega)
 ·rw [getD_ge xs i (by omega)]
  have h2:=V_lt B hB xs h
  have h3 : B ^ xs.length ≤ B ^ i:=Nat.pow_le_pow_right hB (by omega)
  rw [Nat.div_eq_of_lt (by omega)]; simp
theorem short_step (B i d : Nat) (o xs : List Int) (r r' q x : Nat) (hi : i < xs.length) (hl : o.length = xs.length) (h : V B (o.drop (i + 1)) * d + r = V B (xs.drop (i + 1))) (hx : x = (xs.getD i 0).toNat) (hq : q * d + r' = r * B + x) :
  V B ((o.set i (q : Int)).drop i) * d + r' = V B (xs.drop i):=by
 rw [V_drop B xs i hi,V_drop B _ i (by simp; omega),List.drop_set_of_lt (by omega),← h,← hx]
 have e : (o.set i (q : Int)).getD i 0 = (q : Int):=by rw [getD_eq _ _ (by simp; omega)]; simp
 rw [e,Int.toNat_natCast,Nat.add_mul,Nat.mul_add,← Nat.mul_assoc]
 have e2 : B * r = r * B:=Nat.mul_comm ..
 omega

end Go.Proofs.NatL

namespace Go.Proofs.NatL
set_option linter.unusedSimpArgs false
set_option linter.unusedVariables false

structure Est (B : Nat) (Vu Vv U3 V2 u2 head v1 v2 : Nat) : Prop where
 ex : ∃ P ul vl,0 < P ∧ Vu = ul + P * U3 ∧ ul < P ∧ Vv = vl + P * V2 ∧ vl < P
 u : U3 = u2 + B * head
 v : V2 = v2 + B * v1
 ku2 : u2 < B
 kv2 : v2 < B
 kv1 : 0 < v1
 lt : Vu < B * Vv
 hd : head < v1 * B + B

end Go.Proofs.NatL

namespace Go.Proofs.NatL
set_option linter.unusedSimpArgs false
set_option linter.unusedVariables false

end Go.Proofs.NatL

namespace Go.Proofs.NatL
set_option linter.unusedSimpArgs false
set_option linter.unusedVariables false

end Go.Proofs.NatL

namespace Go.Proofs.NatL
set_option linter.unusedSimpArgs false
set_option linter.unusedVariables false

theorem dg_head (n : Nat) : (dg 65536 n).getD 0 0 = ((n % 65536 : Nat) : Int):=by
 rcases Nat.eq_zero_or_pos n with h | h
 ·subst h; rfl
 ·rw [dg_pos _ _ (by omega) h]; rfl
theorem tmod2 (n : Nat) : Int.tmod (n : Int) 2 = ((n % 2 : Nat) : Int):=by
 rw [Int.tmod_eq_emod_of_nonneg (Int.natCast_nonneg _)]; omega
theorem dg_len_pos (B n : Nat) (hB : 2 ≤ B) : 0 < (dg B n).length ↔ 0 < n:=by
 constructor
 ·intro h
  rcases Nat.eq_zero_or_pos n with h1 | h1
  ·subst h1; simp [dg_zero] at h
  ·exact h1
 ·intro h
  rw [dg_pos _ _ hB h]; simp
theorem dg_len_mono {B : Nat} (hB : 2 ≤ B) {a b : Nat} (h : a ≤ b) : (dg B a).length ≤ (dg B b).length:=by
 have h1:=dg_len_gt hB b ((dg B b).length)
 rcases Nat.lt_or_ge b (B ^ (dg B b).length) with h2 | h2
 ·exact dg_len_le hB a _ (Nat.lt_of_le_of_lt h h2)
 ·have:=h1 h2; omega
theorem lt_of_len {B : Nat} (hB : 2 ≤ B) {a k : Nat} (h : (dg B a).length ≤ k) : a < B ^ k:=by
 rcases Nat.lt_or_ge a (B ^ k) with h2 | h2
 ·exact h2
 ·have:=dg_len_gt hB a k h2; omega
theorem pow_le_len {t a k : Nat} (h : 2 ^ t ≤ a) (hl : (dg 65536 a).length ≤ k) : t < 16 * k:=by
 have h1:=lt_of_len (B:=65536) (by omega) hl
 rw [show (65536 : Nat) = 2 ^ 16 from rfl,← Nat.pow_mul] at h1
 exact (Nat.pow_lt_pow_iff_right (a:=2) (by omega)).1 (Nat.lt_of_le_of_lt h h1)

theorem gcd_even2 {a b : Nat} (ha : a % 2 = 0) (hb : b % 2 = 0) : Nat.gcd a b = Nat.gcd (a / 2) (b / 2) * 2:=by
 obtain ⟨x,rfl⟩ : ∃ x,a = 2 * x:=⟨a / 2,by omega⟩
 obtain ⟨y,rfl⟩ : ∃ y,b = 2 * y:=⟨b / 2,by omega⟩
 rw [Nat.gcd_mul_left,Nat.mul_div_cancel_left _ (by omega),Nat.mul_div_cancel_left _ (by omega),Nat.mul_comm]
theorem cop2 {b : Nat} (hb : b % 2 = 1) : Nat.Coprime 2 b:=by
 rw [Nat.coprime_iff_gcd_eq_one,Nat.gcd_rec,hb]; decide
theorem gcd_even1 {a b : Nat} (ha : a % 2 = 0) (hb : b % 2 = 1) : Nat.gcd (a / 2) b = Nat.gcd a b:=by
 obtain ⟨x,rfl⟩ : ∃ x,a = 2 * x:=⟨a / 2,by omega⟩
 rw [Nat.mul_div_cancel_left _ (by omega),(cop2 hb).gcd_mul_left_cancel]

theorem dbl_step (B i : Nat) (o xs : List Int) (c r q c0 : Nat) (h : V B o + B ^ i * c = V B (xs.take i) * 2 + c0) (hl : o.length = i) (hr : r + B * q = c + 2 * (xs.getD i 0).toNat) :
  V B (o ++ [(r : Int)]) + B ^ (i + 1) * q = V B (xs.take (i + 1)) * 2 + c0:=by
 have e:=carry_step B i _ _ _ _ _ _ h hr
 rw [V_snoc,hl,V_take_getD,Int.toNat_natCast,e,Nat.add_mul]
 have : B ^ i * (2 * (xs.getD i 0).toNat) = B ^ i * (xs.getD i 0).toNat * 2:=by rw [Nat.mul_comm 2,Nat.mul_assoc]
 omega

theorem V65 (n : Nat) : V 65536 (dg 65536 n) = n:=V_dg 65536 (by omega) n
theorem I65 (n : Nat) : InB 65536 (dg 65536 n) = True:=eq_true (InB_dg 65536 (by omega) n)
theorem T65 (n : Nat) : Trd (dg 65536 n) = True:=eq_true (dg_trd 65536 (by omega) n)
theorem V32 (n : Nat) : V 4294967296 (dg 4294967296 n) = n:=V_dg 4294967296 (by omega) n
theorem I32 (n : Nat) : InB 4294967296 (dg 4294967296 n) = True:=eq_true (InB_dg 4294967296 (by omega) n)
theorem T32 (n : Nat) : Trd (dg 4294967296 n) = True:=eq_true (dg_trd 4294967296 (by omega) n)
theorem I0 (B : Nat) : InB B [] = True:=eq_true (fun _ h=>by cases h)
theorem T0 : Trd [] = True:=eq_true (.inl rfl)
theorem V0 (B : Nat) : V B [] = 0:=rfl

theorem add_len {B a b k : Nat} (hB : 2 ≤ B) (h : (dg B a).length ≤ k) (h2 : (dg B b).length ≤ k) : (dg B (a + b)).length ≤ k + 1:=by
 have h:=lt_of_len hB h
 have h2:=lt_of_len hB h2
 refine dg_len_le hB _ _ ?_
 rw [Nat.pow_succ]
 have : B ^ k * 2 ≤ B ^ k * B:=Nat.mul_le_mul_left _ hB
 omega
theorem sub_len {B a b k : Nat} (hB : 2 ≤ B) (h : (dg B a).length ≤ k) : (dg B (a - b)).length ≤ k:=by
 have h:=lt_of_len hB h
 exact dg_len_le hB _ _ (by omega)
theorem cmp3_lt (a b : Nat) : cmp3 a b < 0 ↔ a < b:=by
 unfold cmp3; split
 ·simp_all
 ·split <;> simp_all
theorem cmp3_ge (a b : Nat) : 0 ≤ cmp3 a b ↔ b ≤ a:=by
 have:=cmp3_lt a b
 omega

end Go.Proofs.NatL

namespace Go.Proofs.NatL
set_option linter.unusedSimpArgs false
set_option linter.unusedVariables false

def bI (l : List Bool) : List Int:=l.map fun b=>if b then 1 else 0
def bB (xs : List Int) : List Bool:=xs.map fun x=>x == 1
theorem bI_len (l : List Bool) : (bI l).length = l.length:=by simp [bI]
theorem bI_in (l : List Bool) : InB 2 (bI l):=fun x hx=>by
 obtain ⟨b,_,rfl⟩:=List.mem_map.1 hx
 cases b <;> simp
theorem bB_bI (l : List Bool) : bB (bI l) = l:=by
 unfold bB bI
 rw [List.map_map]
 conv=>rhs; rw [← List.map_id l]
 congr 1
 funext b; cases b <;> rfl
theorem bI_snoc (l : List Bool) (b : Bool) : bI (l ++ [b]) = bI l ++ [if b then 1 else 0]:=by simp [bI]
theorem bI_app (l m : List Bool) : bI (l ++ m) = bI l ++ bI m:=by simp [bI]
theorem bI_take (l : List Bool) (n : Nat) : bI (l.take n) = (bI l).take n:=by simp [bI]
def B2 (l : List Bool) : Nat:=V 2 (bI l)
def bs (n : Nat) : List Bool:=bB (dg 2 n)
theorem bI_bB (xs : List Int) (h : InB 2 xs) : bI (bB xs) = xs:=by
 unfold bB bI
 rw [List.map_map]
 conv=>rhs; rw [← List.map_id xs]
 refine List.map_congr_left fun x hx=>?_
 have:=h x hx
 rcases (by omega : x = 0 ∨ x = 1) with rfl | rfl <;> rfl
theorem bI_bs (n : Nat) : bI (bs n) = dg 2 n:=bI_bB _ (InB_dg 2 (by omega) n)
theorem B2_bs (n : Nat) : B2 (bs n) = n:=by unfold B2; rw [bI_bs,V_dg 2 (by omega)]
theorem bs_len (n : Nat) : (bs n).length = (dg 2 n).length:=by simp [bs,bB]
theorem bs_of (l : List Bool) (h : l.length = 0 ∨ l.getD (l.length - 1) false = true) : l = bs (B2 l):=by
 have ht : Trd (bI l):=by
  rcases h with h | h
  ·exact .inl (by rw [bI_len]; exact h)
  ·refine .inr ?_
   rw [bI_len]
   unfold bI
   rw [List.getD_eq_getElem?_getD,List.getElem?_map]
   rw [List.getD_eq_getElem?_getD] at h
   cases he : l[l.length - 1]? with
   | none=>rw [he] at h; simp at h
   | some b=>rw [he] at h; simp at h; subst h; simp
 unfold bs B2
 rw [dg_V 2 (by omega) _ (bI_in l) ht,bB_bI]

theorem B2_drop_last (l : List Bool) (h : 0 < l.length) (h0 : l.getD (l.length - 1) false = false) : B2 (l.take (l.length - 1)) = B2 l:=by
 unfold B2
 have:=V_take_getD 2 (bI l) (l.length - 1)
 rw [show l.length - 1 + 1 = l.length by omega,List.take_of_length_le (by rw [bI_len]; omega)] at this
 rw [bI_take,this]
 have e : (bI l).getD (l.length - 1) 0 = 0:=by
  unfold bI
  rw [List.getD_eq_getElem?_getD,List.getElem?_map]
  rw [List.getD_eq_getElem?_getD] at h0
  cases he : l[l.length - 1]? with
  | none=>rfl
  | some b=>rw [he] at h0; simp at h0; subst h0; rfl
 rw [e]; simp

theorem bit_step (l : List Bool) (m x c : Nat) (hl : l.length = m) (h : B2 l + 2 ^ m * x = c) : B2 (l ++ [decide (x % 2 = 1)]) + 2 ^ (m + 1) * (x / 2) = c:=by
 unfold B2 at *
 rw [bI_snoc,V_snoc,bI_len,hl,← h]
 have e : (if decide (x % 2 = 1) = true then (1 : Int) else 0).toNat = x % 2:=by
  rcases Nat.mod_two_eq_zero_or_one x with h | h <;> simp [h]
 rw [e,Nat.pow_succ,Nat.mul_assoc,Nat.add_assoc,← Nat.mul_add]
 congr 2
 omega

theorem group_step (l : List Bool) (m k : Nat) (hm : m < l.length) : B2 ((l.drop m).take (k + 1)) = 2 * B2 ((l.drop (m + 1)).take k) + (if l.getD m false then 1 else 0):=by
 unfold B2
 rw [List.drop_eq_getElem_cons hm,List.take_succ_cons]
 simp only [bI,List.map_cons,V,List.getD_eq_getElem?_getD,List.getElem?_eq_getElem hm,Option.getD_some]
 cases l[m] <;> simp <;> omega
theorem group_end (l : List Bool) (m k : Nat) (hm : l.length ≤ m) : B2 ((l.drop m).take k) = 0:=by
 rw [List.drop_eq_nil_of_le hm]; simp [B2,bI,V]
theorem B2_lt (l : List Bool) : B2 l < 2 ^ l.length:=by
 have:=V_lt 2 (by omega) _ (bI_in l)
 rwa [bI_len] at this
theorem digit_group (j : Nat) (o : List Int) (l : List Bool) (h : V 65536 o = B2 (l.take (16 * j))) (hl : o.length = j) (x : Nat) (hx : x = B2 ((l.drop (16 * j)).take 16)) (hj : 16 * j ≤ l.length) :
  V 65536 (o ++ [(x : Int)]) = B2 (l.take (16 * (j + 1))):=by
 rw [V_snoc,h,hl,Int.toNat_natCast,hx]
 unfold B2
 have e : l.take (16 * (j + 1)) = l.take (16 * j) ++ (l.drop (16 * j)).take 16:=by
  rw [show 16 * (j + 1) = 16 * j + 16 by omega,List.take_add]
 rw [e,bI_app,V_append,bI_len,List.length_take,Nat.min_eq_left hj,show (65536 : Nat) = 2 ^ 16 from rfl,← Nat.pow_mul]

end Go.Proofs.NatL

namespace Go.Proofs.NatL
set_option linter.unusedSimpArgs false
set_option linter.unusedVariables false

theorem dg_digit (b m k r : Nat) (hb : 2 ≤ b) (h : 0 < m * b ^ (k + 1) + r) : dg b (m * b ^ (k + 1) + r) = ((r % b : Nat) : Int) :: dg b (m * b ^ k + r / b):=by
 rw [dg_pos b _ hb h]
 have e : m * b ^ (k + 1) + r = r + b * (m * b ^ k):=by rw [Nat.pow_succ,Nat.mul_comm b,Nat.mul_assoc]; omega
 rw [e,Nat.add_mul_mod_self_left,Nat.add_mul_div_left _ _ (by omega),Nat.add_comm (r / b)]

end Go.Proofs.NatL

namespace Go.Proofs.NatL
set_option linter.unusedSimpArgs false
set_option linter.unusedVariables false

end Go.Proofs.NatL

namespace Go.Proofs.Ytncededjmcmidaa
set_option linter.unusedSimpArgs false
set_option linter.unusedVariables false
open Go.Abs Go.Proofs.NatL

theorem mixed : Try.prog.follows .mixedOrders = true:=by kernel_rfl
theorem flt : FltOk Try.prog 39:=flt_of (e:=3) ⟨⟨_,_,Try.underlying39,rfl,rfl,rfl,rfl,rfl,rfl⟩,Try.underlying3,by kernel_rfl,by kernel_rfl⟩
def cf0 : Cfg:=⟨fun _=>none,[39],false,false,false,false,false,false⟩
theorem cf0_ok : TblOk Try.prog cf0:=⟨by simp only [cf0,List.mem_singleton,forall_eq]; exact flt,by simp [cf0]⟩
attribute [go_sem] cf0 addT mkCT norm nz nzL List.mem_singleton List.mem_cons true_or or_true
instance (xs : List Int) : Decidable (Trd xs):=inferInstanceAs (Decidable (_ ∨ _))

theorem At_ret (c i : Int) : Ret Try.prog 25 false [.inl (.i .i64 c),.inl (.i .i64 i)] (.g [.i .i64 c,.i .i64 i]):=by
 (refine q_H Try.func25 (fun F=>?_); simp only [q_z,q_y,Try.ntmps25,Try.results25])
 repeat' (first|with_reducible refine q_0 ?_|((with_reducible first|refine q_q cf0_ok fun K hK=>?_|refine q_r cf0_ok fun K hK=>?_);simp (maxSteps:=2000000) only [go_sem,↓reduceIte,reduceCtorEq,Nat.reduceLeDiff,Nat.reduceLT,Nat.reduceBEq,Nat.reduceAdd];(repeat1' with_reducible first|apply And.intro|intro _|(refine hK _ ?_;clear hK K))<;>(try (clear hK K;exact q_u)))|(with_reducible refine q_s ?_;(first|apply q_J|apply q_K|apply q_L|apply q_M|apply q_N|apply q_O)<;>try intro _))
 exact q_A rfl

def atCT : CT:=mkCT [] true fun l K=>match l with
 | [.inl (.i .i64 c),.inl (.i .i64 i)]=>K (.g [.i .i64 c,.i .i64 i])
 | _=>False
def cf2 : Cfg:=addT 25 atCT cf0
theorem cf2_ok : TblOk Try.prog cf2:=q_I cf0_ok Try.func25 fun l K h=>by
 split at h
 ·exact ⟨_,(At_ret _ _).plain rfl,h⟩
 ·exact h.elim
attribute [go_sem] cf2 atCT
def okN (xs : List Int) : Bool:=decide (xs.length ≤ 600 ∧ Trd xs)

end Go.Proofs.Ytncededjmcmidaa

namespace Go.Proofs.Ytncededjmcmidaa
set_option linter.unusedSimpArgs false
set_option linter.unusedVariables false
open Go.Abs Go.Proofs.NatL
attribute [go_sem] cf0 addT mkCT norm nz nzL List.mem_singleton List.mem_cons true_or or_true cf2 atCT
attribute [go_sem] shr32
end Go.Proofs.Ytncededjmcmidaa

namespace Go.Proofs.Ytncededjmcmidaa
set_option linter.unusedSimpArgs false
set_option linter.unusedVariables false
open Go.Abs Go.Proofs.NatL
attribute [go_sem] cf0 addT mkCT norm nz nzL List.mem_singleton List.mem_cons true_or or_true cf2 atCT shr32
attribute [go_sem] listT
end Go.Proofs.Ytncededjmcmidaa

namespace Go.Proofs.Ytncededjmcmidaa
set_option linter.unusedSimpArgs false
set_option linter.unusedVariables false
open Go.Abs Go.Proofs.NatL

def bl (n : Nat) : Nat:=if n = 0 then 0 else n.log2 + 1
theorem bl_lt (n k : Nat) (h : n < 2 ^ k) : bl n ≤ k:=by
 unfold bl
 split
 ·omega
 ·rename_i h0
  have:=(Nat.log2_lt h0).2 h
  omega
theorem bl_spec (n : Nat) (h : 0 < n) : 2 ^ (bl n - 1) ≤ n ∧ n < 2 ^ (bl n) ∧ 0 < bl n:=by
 have h0 : n ≠ 0:=by omega
 unfold bl
 rw [if_neg h0]
 exact ⟨by simpa using Nat.log2_self_le h0,Nat.lt_log2_self,by omega⟩

end Go.Proofs.Ytncededjmcmidaa

namespace Go.Proofs.Ytncededjmcmidaa
set_option linter.unusedSimpArgs false
set_option linter.unusedVariables false
open Go.Abs Go.Proofs.NatL
attribute [go_sem] tmod32 tdiv32
end Go.Proofs.Ytncededjmcmidaa

namespace Go.Proofs.Ytncededjmcmidaa
set_option linter.unusedSimpArgs false
set_option linter.unusedVariables false
open Go.Abs Go.Proofs.NatL
attribute [go_sem] cf0 addT mkCT norm nz nzL List.mem_singleton List.mem_cons true_or or_true
set_option maxHeartbeats 400000 in
theorem rtrim_ret (xs : List Int) (hx : xs.length ≤ 16777216) : Ret Try.prog 94 false [.inl (.ints .i64 xs)] (.c (.ints .i64 (trimL xs))):=by
 (refine q_H Try.func94 (fun F=>?_); simp only [q_z,q_y,Try.ntmps94,Try.results94])
 repeat' (first|with_reducible refine q_0 ?_|((with_reducible first|refine q_q cf0_ok fun K hK=>?_|refine q_r cf0_ok fun K hK=>?_);simp (maxSteps:=2000000) only [go_sem,↓reduceIte,reduceCtorEq,Nat.reduceLeDiff,Nat.reduceLT,Nat.reduceBEq,Nat.reduceAdd];(repeat1' with_reducible first|apply And.intro|intro _|(refine hK _ ?_;clear hK K))<;>(try (clear hK K;exact q_u)))|(with_reducible refine q_s ?_;(first|apply q_J|apply q_K|apply q_L|apply q_M|apply q_N|apply q_O)<;>try intro _))
 refine q_G (ι:={ ys : List Int // trimL ys = trimL xs ∧ ys.length ≤ 16777216 }) (fun ys=>⟨21,[(0,.c (.ints .i64 ys.1))],⟨[],[],[]⟩,0⟩) (fun ys=>ys.1.length) ⟨xs,rfl,hx⟩ ?_ ?_
 ·exact q_D
 rintro ⟨ys,h1,h2⟩
 have e : 0 < (ys.length : Int) → ((ys.length : Int) - 1).toNat = ys.length - 1:=fun _=>by omega
 repeat' (first|with_reducible refine q_0 ?_|((with_reducible first|refine q_q cf0_ok fun K hK=>?_|refine q_r cf0_ok fun K hK=>?_);simp (maxSteps:=2000000) only [go_sem,↓reduceIte,reduceCtorEq,Nat.reduceLeDiff,Nat.reduceLT,Nat.reduceBEq,Nat.reduceAdd];(repeat1' with_reducible first|apply And.intro|intro _|(refine hK _ ?_;clear hK K))<;>(try (clear hK K;exact q_u)))|(with_reducible refine q_s ?_;(first|apply q_J|apply q_K|apply q_L|apply q_M|apply q_N|apply q_O)<;>try intro _))
 ·rename_i hp h0
  rw [e hp] at h0 ⊢
  refine q_F ⟨ys.take (ys.length - 1),by rw [trimL_drop ys (by omega) h0,h1],by simp; omega⟩ ?_ ?_
  ·exact q_D
  ·show (ys.take (ys.length - 1)).length < ys.length
   simp; omega
 ·rename_i hp h0
  rw [e hp] at h0
  exact q_A (by rw [← h1,trimL_stop ys (.inr h0)]; rfl)
 ·exact q_A (by rw [← h1,trimL_stop ys (.inl (by omega))]; rfl)

def rtrimCT : CT:=mkCT [.inl (some (.ints .i64 []))] false fun l K=>match l with
 | [.inl (.ints .i64 xs)]=>xs.length ≤ 16777216 ∧ K (.c (.ints .i64 (trimL xs)))
 | _=>False
def rf1 : Cfg:=addT 94 rtrimCT cf0
theorem rf1_ok : TblOk Try.prog rf1:=q_I cf0_ok Try.func94 fun l K h=>by
 split at h
 ·exact ⟨_,rtrim_ret _ h.1,h.2⟩
 ·exact h.elim
attribute [go_sem] rf1 rtrimCT
theorem of_step (i : Nat) (o xs : List Int) (h : V 65536 o = V 4294967296 (xs.take i)) (hl : o.length = 2 * i) (hi : i < xs.length) (r q : Int) (hr : r.toNat + 65536 * q.toNat = (xs.getD i 0).toNat) : V 65536 (o ++ [r,q]) = V 4294967296 (xs.take (i + 1)):=by
 rw [V_append,V_take_getD,h,hl]
 have e : (65536 : Nat) ^ (2 * i) = 4294967296 ^ i:=by rw [Nat.pow_mul]
 rw [e]
 simp only [V,Nat.mul_zero,Nat.add_zero]
 rw [hr]

set_option maxHeartbeats 800000 in
theorem of_ret (xs : List Int) (hx : xs.length ≤ 1048576) (bx : InB 4294967296 xs) : Ret Try.prog 93 false [.inl (.ints .u32 xs)] (.c (.ints .i64 (dg 65536 (V 4294967296 xs)))):=by
 (refine q_H Try.func93 (fun F=>?_); simp only [q_z,q_y,Try.ntmps93,Try.results93])
 repeat' (first|with_reducible refine q_0 ?_|((with_reducible first|refine q_q cf0_ok fun K hK=>?_|refine q_r cf0_ok fun K hK=>?_);simp (maxSteps:=2000000) only [go_sem,↓reduceIte,reduceCtorEq,Nat.reduceLeDiff,Nat.reduceLT,Nat.reduceBEq,Nat.reduceAdd];(repeat1' with_reducible first|apply And.intro|intro _|(refine hK _ ?_;clear hK K))<;>(try (clear hK K;exact q_u)))|(with_reducible refine q_s ?_;(first|apply q_J|apply q_K|apply q_L|apply q_M|apply q_N|apply q_O)<;>try intro _))
 refine q_G (ι:={ p : Nat × List Int // p.1 ≤ xs.length ∧ p.2.length = 2 * p.1 ∧ InB 65536 p.2 ∧ V 65536 p.2 = V 4294967296 (xs.take p.1) }) (fun p=>⟨28,[(0,.c (.ints .u32 xs)),(3,.own 0 0),(4,.c (.i .i64 p.1.1))],⟨[],[(0,⟨0,3,1,.ints .i64 p.1.2⟩)],[]⟩,1⟩) (fun p=>xs.length - p.1.1) ⟨(0,[]),by simp,by simp,InB_nil _,by simp [V]⟩ ?_ ?_
 ·exact q_D
 rintro ⟨⟨i,o⟩,g1,g2,g3,g4⟩
 simp only at g1 g2 g3 g4 ⊢
 have b1:=InB_getD (by omega) bx i
 repeat' (first|with_reducible refine q_0 ?_|((with_reducible first|refine q_q rf1_ok fun K hK=>?_|refine q_r rf1_ok fun K hK=>?_);simp (maxSteps:=2000000) only [go_sem,↓reduceIte,reduceCtorEq,Nat.reduceLeDiff,Nat.reduceLT,Nat.reduceBEq,Nat.reduceAdd];(repeat1' with_reducible first|apply And.intro|intro _|(refine hK _ ?_;clear hK K))<;>(try (clear hK K;exact q_u)))|(with_reducible refine q_s ?_;(first|apply q_J|apply q_K|apply q_L|apply q_M|apply q_N|apply q_O)<;>try intro _))
 ·rename_i ha
  refine q_F ⟨(i + 1,o ++ [xs.getD i 0 % 65536,xs.getD i 0 / 65536]),by simp only; omega,by simp [g2]; omega,InB_app g3 (InB_two (by omega) (by omega)),of_step i o xs g4 g2 (by omega) _ _ (by omega)⟩ ?_ ?_
  ·exact q_D
  ·show xs.length - (i + 1) < xs.length - i
   omega
 ·rename_i ha
  have hi : i = xs.length:=by omega
  refine q_A ?_
  simp only [resAV,q_y]
  rw [trimL_eq 65536 (by omega) _ g3,g4,hi,List.take_length]

def ofCT : CT:=mkCT [.inl (some (.ints .u32 []))] false fun l K=>match l with
 | [.inl (.ints .u32 xs)]=>(xs.length ≤ 1048576 ∧ InB 4294967296 xs) ∧ K (.c (.ints .i64 (dg 65536 (V 4294967296 xs))))
 | _=>False
def rf2 : Cfg:=addT 93 ofCT cf0
theorem rf2_ok : TblOk Try.prog rf2:=q_I cf0_ok Try.func93 fun l K h=>by
 split at h
 ·exact ⟨_,of_ret _ h.1.1 h.1.2,h.2⟩
 ·exact h.elim
attribute [go_sem] rf2 ofCT
set_option maxHeartbeats 800000 in
theorem rcompare_ret (xs ys : List Int) (hx : xs.length ≤ 4194304) (hy : ys.length ≤ 4194304) (bx : InB 65536 xs) (by' : InB 65536 ys) (tx : Trd xs) (ty : Trd ys) : Ret Try.prog 74 false [.inl (.ints .i64 xs),.inl (.ints .i64 ys)] (.c (.i .i64 (cmp3 (V 65536 xs) (V 65536 ys)))):=by
 (refine q_H Try.func74 (fun F=>?_); simp only [q_z,q_y,Try.ntmps74,Try.results74])
 repeat' (first|with_reducible refine q_0 ?_|((with_reducible first|refine q_q rf1_ok fun K hK=>?_|refine q_r rf1_ok fun K hK=>?_);simp (maxSteps:=2000000) only [go_sem,↓reduceIte,reduceCtorEq,Nat.reduceLeDiff,Nat.reduceLT,Nat.reduceBEq,Nat.reduceAdd];(repeat1' with_reducible first|apply And.intro|intro _|(refine hK _ ?_;clear hK K))<;>(try (clear hK K;exact q_u)))|(with_reducible refine q_s ?_;(first|apply q_J|apply q_K|apply q_L|apply q_M|apply q_N|apply q_O)<;>try intro _))
 ·rename_i hl
  have:=len_lt (by omega) bx by' ty (by omega)
  exact q_A (by simp only [resAV,q_y,cmp3]; rw [if_pos this])
 ·rename_i hl hl2
  have:=len_lt (by omega) by' bx tx (by omega)
  exact q_A (by simp only [resAV,q_y,cmp3]; rw [if_neg (by omega),if_neg (by omega)])
 rename_i hl
 have hl : xs.length = ys.length:=by omega
 refine q_G (ι:={ i : Int // -1 ≤ i ∧ i < xs.length ∧ xs.drop (i + 1).toNat = ys.drop (i + 1).toNat }) (fun i=>⟨41,[(0,.c (.ints .i64 xs)),(1,.c (.ints .i64 ys)),(5,.c (.i .i64 i.1))],⟨[],[],[]⟩,0⟩) (fun i=>(i.1 + 1).toNat) ⟨(xs.length : Int) - 1,by omega,by omega,by rw [List.drop_eq_nil_of_le (by omega),List.drop_eq_nil_of_le (by omega)]⟩ ?_ ?_
 ·exact q_D
 rintro ⟨i,h1,h2,h3⟩
 simp only
 have e1 : 0 ≤ i → (i + 1).toNat = i.toNat + 1:=fun _=>by omega
 repeat' (first|with_reducible refine q_0 ?_|((with_reducible first|refine q_q rf1_ok fun K hK=>?_|refine q_r rf1_ok fun K hK=>?_);simp (maxSteps:=2000000) only [go_sem,↓reduceIte,reduceCtorEq,Nat.reduceLeDiff,Nat.reduceLT,Nat.reduceBEq,Nat.reduceAdd];(repeat1' with_reducible first|apply And.intro|intro _|(refine hK _ ?_;clear hK K))<;>(try (clear hK K;exact q_u)))|(with_reducible refine q_s ?_;(first|apply q_J|apply q_K|apply q_L|apply q_M|apply q_N|apply q_O)<;>try intro _))
 ·rename_i h0 hlt
  rw [e1 h0] at h3
  have:=cmp_at (by omega) bx by' hl i.toNat (by omega) h3 hlt
  exact q_A (by simp only [resAV,q_y,cmp3]; rw [if_pos this])
 ·rename_i h0 hne hlt
  rw [e1 h0] at h3
  have:=cmp_at (by omega) by' bx hl.symm i.toNat (by omega) h3.symm (by omega)
  exact q_A (by simp only [resAV,q_y,cmp3]; rw [if_neg (by omega),if_neg (by omega)])
 ·rename_i h0 he he2
  rw [e1 h0] at h3
  refine q_F ⟨i - 1,by omega,by omega,?_⟩ ?_ ?_
  ·rw [show (i - 1 + 1).toNat = i.toNat by omega]
   exact drop_step hl i.toNat (by omega) h3 (by omega)
  ·exact q_D
  ·show (i - 1 + 1).toNat < (i + 1).toNat
   omega
 ·rename_i h0
  rw [show (i + 1).toNat = 0 by omega] at h3
  simp only [List.drop_zero] at h3
  exact q_A (by simp only [resAV,q_y,cmp3,h3]; simp)

set_option maxHeartbeats 1600000 in
theorem plus_ret (xs ys : List Int) (hx : xs.length ≤ 4194304) (hy : ys.length ≤ 4194304) (bx : InB 65536 xs) (by' : InB 65536 ys) : Ret Try.prog 97 false [.inl (.ints .i64 xs),.inl (.ints .i64 ys)] (.c (.ints .i64 (dg 65536 (V 65536 xs + V 65536 ys)))):=by
 (refine q_H Try.func97 (fun F=>?_); simp only [q_z,q_y,Try.ntmps97,Try.results97])
 repeat' (first|with_reducible refine q_0 ?_|((with_reducible first|refine q_q rf1_ok fun K hK=>?_|refine q_r rf1_ok fun K hK=>?_);simp (maxSteps:=2000000) only [go_sem,↓reduceIte,reduceCtorEq,Nat.reduceLeDiff,Nat.reduceLT,Nat.reduceBEq,Nat.reduceAdd];(repeat1' with_reducible first|apply And.intro|intro _|(refine hK _ ?_;clear hK K))<;>(try (clear hK K;exact q_u)))|(with_reducible refine q_s ?_;(first|apply q_J|apply q_K|apply q_L|apply q_M|apply q_N|apply q_O)<;>try intro _))
 refine q_G (ι:={ p : Nat × List Int × Int // p.1 ≤ max xs.length ys.length + 1 ∧ p.2.1.length = p.1 ∧ InB 65536 p.2.1 ∧ 0 ≤ p.2.2 ∧ p.2.2 ≤ 1 ∧ (p.1 = max xs.length ys.length + 1 → p.2.2 = 0) ∧ V 65536 p.2.1 + 65536 ^ p.1 * p.2.2.toNat = V 65536 (xs.take p.1) + V 65536 (ys.take p.1) }) (fun p=>⟨53,[(0,.c (.ints .i64 xs)),(1,.c (.ints .i64 ys)),(5,.own 0 0),(6,.c (.i .i64 p.1.2.2)),(7,.c (.i .i64 p.1.1))],⟨[],[(0,⟨0,3,1,.ints .i64 p.1.2.1⟩)],[]⟩,1⟩) (fun p=>max xs.length ys.length + 1 - p.1.1) ⟨(0,[],0),by simp,rfl,InB_nil _,by simp,by simp,by simp,by simp [V]⟩ ?_ ?_
 ·exact q_D
 rintro ⟨⟨i,o,c⟩,g1,g2,g3,g4,g5,g6,g7⟩
 simp only at g1 g2 g3 g4 g5 g6 g7 ⊢
 have b1:=InB_getD (by omega) bx i
 have b2:=InB_getD (by omega) by' i
 have z1 : ¬ (i : Int) < xs.length → xs.getD i 0 = 0:=fun h=>getD_ge xs i (by omega)
 have z2 : ¬ (i : Int) < ys.length → ys.getD i 0 = 0:=fun h=>getD_ge ys i (by omega)
 have z3 : ∀ (h : ¬ (i : Int) < xs.length) (h2 : ¬ (i : Int) < ys.length),c + xs.getD i 0 + ys.getD i 0 = c:=fun h h2=>by rw [z1 h,z2 h2]; omega
 repeat' (first|with_reducible refine q_0 ?_|((with_reducible first|refine q_q rf1_ok fun K hK=>?_|refine q_r rf1_ok fun K hK=>?_);simp (maxSteps:=2000000) only [go_sem,↓reduceIte,reduceCtorEq,Nat.reduceLeDiff,Nat.reduceLT,Nat.reduceBEq,Nat.reduceAdd];(repeat1' with_reducible first|apply And.intro|intro _|(refine hK _ ?_;clear hK K))<;>(try (clear hK K;exact q_u)))|(with_reducible refine q_s ?_;(first|apply q_J|apply q_K|apply q_L|apply q_M|apply q_N|apply q_O)<;>try intro _))
 all_goals first | (exfalso; omega) | skip
 all_goals (try simp (disch:=omega) only [Int.tdiv_eq_ediv_of_nonneg,Int.tmod_eq_emod_of_nonneg])
 all_goals first
  | (refine q_F ⟨(i + 1,o ++ [(c + xs.getD i 0 + ys.getD i 0) % 65536],(c + xs.getD i 0 + ys.getD i 0) / 65536),by simp only; omega,by simp [g2],InB_snoc g3 (by omega) (by omega),by simp only; omega,by simp only; omega,by simp only; omega,by simp only; exact add_step _ _ _ xs ys c _ _ _ _ g7 g2 rfl rfl (by omega)⟩ ?_ (by show max xs.length ys.length + 1 - (i + 1) < max xs.length ys.length + 1 - i; omega); exact q_D; done)
  | skip
 ·have hc : c = 0:=by omega
  refine q_A ?_
  simp only [resAV,q_y]
  rw [hc] at g7
  simp at g7
  rw [trimL_eq 65536 (by omega) _ g3,g7,List.take_of_length_le (by omega),List.take_of_length_le (by omega)]

set_option maxHeartbeats 1600000 in
theorem minus_ret (xs ys : List Int) (hx : xs.length ≤ 4194304) (hy : ys.length ≤ xs.length) (bx : InB 65536 xs) (by' : InB 65536 ys) (hv : V 65536 ys ≤ V 65536 xs) : Ret Try.prog 96 false [.inl (.ints .i64 xs),.inl (.ints .i64 ys)] (.c (.ints .i64 (dg 65536 (V 65536 xs - V 65536 ys)))):=by
 (refine q_H Try.func96 (fun F=>?_); simp only [q_z,q_y,Try.ntmps96,Try.results96])
 repeat' (first|with_reducible refine q_0 ?_|((with_reducible first|refine q_q rf1_ok fun K hK=>?_|refine q_r rf1_ok fun K hK=>?_);simp (maxSteps:=2000000) only [go_sem,↓reduceIte,reduceCtorEq,Nat.reduceLeDiff,Nat.reduceLT,Nat.reduceBEq,Nat.reduceAdd];(repeat1' with_reducible first|apply And.intro|intro _|(refine hK _ ?_;clear hK K))<;>(try (clear hK K;exact q_u)))|(with_reducible refine q_s ?_;(first|apply q_J|apply q_K|apply q_L|apply q_M|apply q_N|apply q_O)<;>try intro _))
 refine q_G (ι:={ p : List Int × Int // p.1.length ≤ xs.length ∧ InB 65536 p.1 ∧ 0 ≤ p.2 ∧ p.2 ≤ 1 ∧ V 65536 p.1 + V 65536 (ys.take p.1.length) = V 65536 (xs.take p.1.length) + 65536 ^ p.1.length * p.2.toNat }) (fun p=>⟨41,[(0,.c (.ints .i64 xs)),(1,.c (.ints .i64 ys)),(5,.own 0 0),(6,.c (.i .i64 p.1.2)),(7,.c (.i .i64 p.1.1.length))],⟨[],[(0,⟨0,3,1,.ints .i64 p.1.1⟩)],[]⟩,1⟩) (fun p=>xs.length - p.1.1.length) ⟨([],0),by simp,InB_nil _,by simp,by simp,by simp [V]⟩ ?_ ?_
 ·exact q_D
 rintro ⟨⟨o,c⟩,g1,g2,g3,g4,g5⟩
 simp only at g1 g2 g3 g4 g5 ⊢
 have b1:=InB_getD (by omega) bx o.length
 have b2:=InB_getD (by omega) by' o.length
 have z2 : ¬ (o.length : Int) < ys.length → ys.getD o.length 0 = 0:=fun h=>getD_ge ys o.length (by omega)
 repeat' (first|with_reducible refine q_0 ?_|((with_reducible first|refine q_q rf1_ok fun K hK=>?_|refine q_r rf1_ok fun K hK=>?_);simp (maxSteps:=2000000) only [go_sem,↓reduceIte,reduceCtorEq,Nat.reduceLeDiff,Nat.reduceLT,Nat.reduceBEq,Nat.reduceAdd];(repeat1' with_reducible first|apply And.intro|intro _|(refine hK _ ?_;clear hK K))<;>(try (clear hK K;exact q_u)))|(with_reducible refine q_s ?_;(first|apply q_J|apply q_K|apply q_L|apply q_M|apply q_N|apply q_O)<;>try intro _))
 all_goals first | (exfalso; omega) | skip
 all_goals first
  | (refine q_F ⟨(o ++ [if xs.getD o.length 0 - c - ys.getD o.length 0 < 0 then xs.getD o.length 0 - c - ys.getD o.length 0 + 65536 else xs.getD o.length 0 - c - ys.getD o.length 0],if xs.getD o.length 0 - c - ys.getD o.length 0 < 0 then 1 else 0),by simp; omega,InB_snoc g2 (by split <;> omega) (by split <;> omega),by simp only; split <;> omega,by simp only; split <;> omega,(by
     simp only [List.length_append,List.length_cons,List.length_nil,Nat.zero_add]
     exact sub_step _ _ _ xs ys c _ _ _ _ g5 rfl rfl rfl (by split <;> omega))⟩ ?_ (by simp; omega); exact q_D; done)
  | skip
 ·refine q_A ?_
  have hl : o.length = xs.length:=by omega
  simp only [resAV,q_y]
  rw [trimL_eq 65536 (by omega) _ g2,sub_end 65536 (by omega) o xs ys c g2 hl hy hv g4 g5]
end Go.Proofs.Ytncededjmcmidaa
