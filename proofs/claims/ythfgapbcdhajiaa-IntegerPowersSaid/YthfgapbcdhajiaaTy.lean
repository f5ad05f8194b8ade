/- Closed facts on the plain types of this seat: sizes, bytes, zero values, places. -/
import Derived.Test.YthfgapbcdhajiaaRows
import Derived.Test.YthfgapbcdhajiaaAbs3
namespace Go.Proofs.Ythfgapbcdhajiaa
set_option linter.unusedSimpArgs false
set_option linter.unusedVariables false
open Go.Abs
theorem sz2 : szO Try.prog 2 = some 1 := by kernel_rfl
theorem by2 : byO Try.prog 2 = some 8 := by kernel_rfl
theorem ze2 : zeroO Try.prog 2 = some [.int .i64 0] := by kernel_rfl
theorem ag2 : aggO Try.prog 2 = some false := by kernel_rfl
theorem el2 : elO Try.prog 2 = none := by kernel_rfl
theorem in2 : intO Try.prog 2 = some .i64 := by kernel_rfl
theorem st2 : strO Try.prog 2 = false := by kernel_rfl
theorem u82 : u8O Try.prog 2 = false := by kernel_rfl
theorem em2 : emptyO Try.prog 2 = some (.ints .i64 []) := by kernel_rfl
theorem sz3 : szO Try.prog 3 = some 1 := by kernel_rfl
theorem by3 : byO Try.prog 3 = some 8 := by kernel_rfl
theorem ze3 : zeroO Try.prog 3 = some [.int .i64 0] := by kernel_rfl
theorem ag3 : aggO Try.prog 3 = some false := by kernel_rfl
theorem el3 : elO Try.prog 3 = none := by kernel_rfl
theorem in3 : intO Try.prog 3 = some .i64 := by kernel_rfl
theorem st3 : strO Try.prog 3 = false := by kernel_rfl
theorem u83 : u8O Try.prog 3 = false := by kernel_rfl
theorem em3 : emptyO Try.prog 3 = some (.ints .i64 []) := by kernel_rfl
theorem sz4 : szO Try.prog 4 = some 1 := by kernel_rfl
theorem by4 : byO Try.prog 4 = some 1 := by kernel_rfl
theorem ze4 : zeroO Try.prog 4 = some [.bool false] := by kernel_rfl
theorem ag4 : aggO Try.prog 4 = some false := by kernel_rfl
theorem el4 : elO Try.prog 4 = none := by kernel_rfl
theorem st4 : strO Try.prog 4 = false := by kernel_rfl
theorem u84 : u8O Try.prog 4 = false := by kernel_rfl
theorem em4 : emptyO Try.prog 4 = some (.bools []) := by kernel_rfl
theorem sz5 : szO Try.prog 5 = some 1 := by kernel_rfl
theorem by5 : byO Try.prog 5 = some 1 := by kernel_rfl
theorem ze5 : zeroO Try.prog 5 = some [.int .u8 0] := by kernel_rfl
theorem ag5 : aggO Try.prog 5 = some false := by kernel_rfl
theorem el5 : elO Try.prog 5 = none := by kernel_rfl
theorem in5 : intO Try.prog 5 = some .u8 := by kernel_rfl
theorem st5 : strO Try.prog 5 = false := by kernel_rfl
theorem u85 : u8O Try.prog 5 = false := by kernel_rfl
theorem em5 : emptyO Try.prog 5 = some (.ints .u8 []) := by kernel_rfl
theorem sz9 : szO Try.prog 9 = some 1 := by kernel_rfl
theorem by9 : byO Try.prog 9 = some 16 := by kernel_rfl
theorem ze9 : zeroO Try.prog 9 = some [.string ByteArray.empty] := by kernel_rfl
theorem ag9 : aggO Try.prog 9 = some false := by kernel_rfl
theorem el9 : elO Try.prog 9 = none := by kernel_rfl
theorem st9 : strO Try.prog 9 = true := by kernel_rfl
theorem u89 : u8O Try.prog 9 = false := by kernel_rfl
theorem em9 : emptyO Try.prog 9 = some (.sl 1 []) := by kernel_rfl
theorem sz12 : szO Try.prog 12 = some 1 := by kernel_rfl
theorem by12 : byO Try.prog 12 = some 8 := by kernel_rfl
theorem ze12 : zeroO Try.prog 12 = some [.int .u64 0] := by kernel_rfl
theorem ag12 : aggO Try.prog 12 = some false := by kernel_rfl
theorem el12 : elO Try.prog 12 = none := by kernel_rfl
theorem in12 : intO Try.prog 12 = some .u64 := by kernel_rfl
theorem st12 : strO Try.prog 12 = false := by kernel_rfl
theorem u812 : u8O Try.prog 12 = false := by kernel_rfl
theorem em12 : emptyO Try.prog 12 = some (.ints .u64 []) := by kernel_rfl
theorem sz13 : szO Try.prog 13 = some 2 := by kernel_rfl
theorem by13 : byO Try.prog 13 = some 24 := by kernel_rfl
theorem ze13 : zeroO Try.prog 13 = some [.string ByteArray.empty, .int .u64 0] := by kernel_rfl
theorem ag13 : aggO Try.prog 13 = some true := by kernel_rfl
theorem el13 : elO Try.prog 13 = none := by kernel_rfl
theorem st13 : strO Try.prog 13 = false := by kernel_rfl
theorem u813 : u8O Try.prog 13 = false := by kernel_rfl
theorem em13 : emptyO Try.prog 13 = some (.sl 2 []) := by kernel_rfl
theorem fd13_0 : fldO Try.prog 13 0 = some (0, 9) := by kernel_rfl
theorem fd13_1 : fldO Try.prog 13 1 = some (1, 12) := by kernel_rfl
theorem pl13 : plO Try.prog 13 = some [(0, 1), (1, 1)] := by kernel_rfl
theorem sz21 : szO Try.prog 21 = some 1 := by kernel_rfl
theorem by21 : byO Try.prog 21 = some 4 := by kernel_rfl
theorem ze21 : zeroO Try.prog 21 = some [.int .i32 0] := by kernel_rfl
theorem ag21 : aggO Try.prog 21 = some false := by kernel_rfl
theorem el21 : elO Try.prog 21 = none := by kernel_rfl
theorem in21 : intO Try.prog 21 = some .i32 := by kernel_rfl
theorem st21 : strO Try.prog 21 = false := by kernel_rfl
theorem u821 : u8O Try.prog 21 = false := by kernel_rfl
theorem em21 : emptyO Try.prog 21 = some (.ints .i32 []) := by kernel_rfl
theorem sz22 : szO Try.prog 22 = some 1 := by kernel_rfl
theorem by22 : byO Try.prog 22 = some 24 := by kernel_rfl
theorem ze22 : zeroO Try.prog 22 = some [.slice none 0 0] := by kernel_rfl
theorem ag22 : aggO Try.prog 22 = some false := by kernel_rfl
theorem el22 : elO Try.prog 22 = some 73 := by kernel_rfl
theorem st22 : strO Try.prog 22 = false := by kernel_rfl
theorem u822 : u8O Try.prog 22 = false := by kernel_rfl
theorem em22 : emptyO Try.prog 22 = some (.sl 1 []) := by kernel_rfl
theorem sz23 : szO Try.prog 23 = some 2 := by kernel_rfl
theorem by23 : byO Try.prog 23 = some 32 := by kernel_rfl
theorem ze23 : zeroO Try.prog 23 = some [.bool false, .slice none 0 0] := by kernel_rfl
theorem ag23 : aggO Try.prog 23 = some true := by kernel_rfl
theorem el23 : elO Try.prog 23 = none := by kernel_rfl
theorem st23 : strO Try.prog 23 = false := by kernel_rfl
theorem u823 : u8O Try.prog 23 = false := by kernel_rfl
theorem em23 : emptyO Try.prog 23 = some (.sl 2 []) := by kernel_rfl
theorem fd23_0 : fldO Try.prog 23 0 = some (0, 4) := by kernel_rfl
theorem fd23_1 : fldO Try.prog 23 1 = some (1, 22) := by kernel_rfl
theorem pl23 : plO Try.prog 23 = some [(0, 1), (1, 1)] := by kernel_rfl
theorem sz24 : szO Try.prog 24 = some 2 := by kernel_rfl
theorem by24 : byO Try.prog 24 = some 32 := by kernel_rfl
theorem ze24 : zeroO Try.prog 24 = some [.bool false, .slice none 0 0] := by kernel_rfl
theorem ag24 : aggO Try.prog 24 = some true := by kernel_rfl
theorem el24 : elO Try.prog 24 = none := by kernel_rfl
theorem st24 : strO Try.prog 24 = false := by kernel_rfl
theorem u824 : u8O Try.prog 24 = false := by kernel_rfl
theorem em24 : emptyO Try.prog 24 = some (.sl 2 []) := by kernel_rfl
theorem fd24_0 : fldO Try.prog 24 0 = some (0, 4) := by kernel_rfl
theorem fd24_1 : fldO Try.prog 24 1 = some (1, 22) := by kernel_rfl
theorem pl24 : plO Try.prog 24 = some [(0, 1), (1, 1)] := by kernel_rfl
theorem sz26 : szO Try.prog 26 = some 2 := by kernel_rfl
theorem by26 : byO Try.prog 26 = some 16 := by kernel_rfl
theorem ze26 : zeroO Try.prog 26 = some [.int .i64 0, .int .i64 0] := by kernel_rfl
theorem ag26 : aggO Try.prog 26 = some true := by kernel_rfl
theorem el26 : elO Try.prog 26 = none := by kernel_rfl
theorem st26 : strO Try.prog 26 = false := by kernel_rfl
theorem u826 : u8O Try.prog 26 = false := by kernel_rfl
theorem em26 : emptyO Try.prog 26 = some (.sl 2 []) := by kernel_rfl
theorem fd26_0 : fldO Try.prog 26 0 = some (0, 3) := by kernel_rfl
theorem fd26_1 : fldO Try.prog 26 1 = some (1, 3) := by kernel_rfl
theorem pl26 : plO Try.prog 26 = some [(0, 1), (1, 1)] := by kernel_rfl
theorem sz27 : szO Try.prog 27 = some 2 := by kernel_rfl
theorem by27 : byO Try.prog 27 = some 16 := by kernel_rfl
theorem ze27 : zeroO Try.prog 27 = some [.int .i64 0, .int .i64 0] := by kernel_rfl
theorem ag27 : aggO Try.prog 27 = some true := by kernel_rfl
theorem el27 : elO Try.prog 27 = none := by kernel_rfl
theorem st27 : strO Try.prog 27 = false := by kernel_rfl
theorem u827 : u8O Try.prog 27 = false := by kernel_rfl
theorem em27 : emptyO Try.prog 27 = some (.sl 2 []) := by kernel_rfl
theorem fd27_0 : fldO Try.prog 27 0 = some (0, 3) := by kernel_rfl
theorem fd27_1 : fldO Try.prog 27 1 = some (1, 3) := by kernel_rfl
theorem pl27 : plO Try.prog 27 = some [(0, 1), (1, 1)] := by kernel_rfl
theorem sz36 : szO Try.prog 36 = some 1 := by kernel_rfl
theorem by36 : byO Try.prog 36 = some 24 := by kernel_rfl
theorem ze36 : zeroO Try.prog 36 = some [.slice none 0 0] := by kernel_rfl
theorem ag36 : aggO Try.prog 36 = some false := by kernel_rfl
theorem el36 : elO Try.prog 36 = some 3 := by kernel_rfl
theorem st36 : strO Try.prog 36 = false := by kernel_rfl
theorem u836 : u8O Try.prog 36 = false := by kernel_rfl
theorem em36 : emptyO Try.prog 36 = some (.sl 1 []) := by kernel_rfl
theorem sz37 : szO Try.prog 37 = some 1 := by kernel_rfl
theorem by37 : byO Try.prog 37 = some 24 := by kernel_rfl
theorem ze37 : zeroO Try.prog 37 = some [.slice none 0 0] := by kernel_rfl
theorem ag37 : aggO Try.prog 37 = some false := by kernel_rfl
theorem el37 : elO Try.prog 37 = some 3 := by kernel_rfl
theorem st37 : strO Try.prog 37 = false := by kernel_rfl
theorem u837 : u8O Try.prog 37 = false := by kernel_rfl
theorem em37 : emptyO Try.prog 37 = some (.sl 1 []) := by kernel_rfl
theorem sz38 : szO Try.prog 38 = some 2 := by kernel_rfl
theorem by38 : byO Try.prog 38 = some 32 := by kernel_rfl
theorem ze38 : zeroO Try.prog 38 = some [.bool false, .slice none 0 0] := by kernel_rfl
theorem ag38 : aggO Try.prog 38 = some true := by kernel_rfl
theorem el38 : elO Try.prog 38 = none := by kernel_rfl
theorem st38 : strO Try.prog 38 = false := by kernel_rfl
theorem u838 : u8O Try.prog 38 = false := by kernel_rfl
theorem em38 : emptyO Try.prog 38 = some (.sl 2 []) := by kernel_rfl
theorem fd38_0 : fldO Try.prog 38 0 = some (0, 4) := by kernel_rfl
theorem fd38_1 : fldO Try.prog 38 1 = some (1, 37) := by kernel_rfl
theorem pl38 : plO Try.prog 38 = some [(0, 1), (1, 1)] := by kernel_rfl
theorem sz39 : szO Try.prog 39 = some 2 := by kernel_rfl
theorem by39 : byO Try.prog 39 = some 32 := by kernel_rfl
theorem ze39 : zeroO Try.prog 39 = some [.bool false, .slice none 0 0] := by kernel_rfl
theorem ag39 : aggO Try.prog 39 = some true := by kernel_rfl
theorem el39 : elO Try.prog 39 = none := by kernel_rfl
theorem st39 : strO Try.prog 39 = false := by kernel_rfl
theorem u839 : u8O Try.prog 39 = false := by kernel_rfl
theorem em39 : emptyO Try.prog 39 = some (.sl 2 []) := by kernel_rfl
theorem fd39_0 : fldO Try.prog 39 0 = some (0, 4) := by kernel_rfl
theorem fd39_1 : fldO Try.prog 39 1 = some (1, 37) := by kernel_rfl
theorem pl39 : plO Try.prog 39 = some [(0, 1), (1, 1)] := by kernel_rfl
theorem sz64 : szO Try.prog 64 = some 1 := by kernel_rfl
theorem by64 : byO Try.prog 64 = some 24 := by kernel_rfl
theorem ze64 : zeroO Try.prog 64 = some [.slice none 0 0] := by kernel_rfl
theorem ag64 : aggO Try.prog 64 = some false := by kernel_rfl
theorem el64 : elO Try.prog 64 = some 4 := by kernel_rfl
theorem st64 : strO Try.prog 64 = false := by kernel_rfl
theorem u864 : u8O Try.prog 64 = false := by kernel_rfl
theorem em64 : emptyO Try.prog 64 = some (.sl 1 []) := by kernel_rfl
theorem sz73 : szO Try.prog 73 = some 1 := by kernel_rfl
theorem by73 : byO Try.prog 73 = some 4 := by kernel_rfl
theorem ze73 : zeroO Try.prog 73 = some [.int .u32 0] := by kernel_rfl
theorem ag73 : aggO Try.prog 73 = some false := by kernel_rfl
theorem el73 : elO Try.prog 73 = none := by kernel_rfl
theorem in73 : intO Try.prog 73 = some .u32 := by kernel_rfl
theorem st73 : strO Try.prog 73 = false := by kernel_rfl
theorem u873 : u8O Try.prog 73 = false := by kernel_rfl
theorem em73 : emptyO Try.prog 73 = some (.ints .u32 []) := by kernel_rfl
theorem sz77 : szO Try.prog 77 = some 1 := by kernel_rfl
theorem by77 : byO Try.prog 77 = some 24 := by kernel_rfl
theorem ze77 : zeroO Try.prog 77 = some [.slice none 0 0] := by kernel_rfl
theorem ag77 : aggO Try.prog 77 = some false := by kernel_rfl
theorem el77 : elO Try.prog 77 = some 24 := by kernel_rfl
theorem st77 : strO Try.prog 77 = false := by kernel_rfl
theorem u877 : u8O Try.prog 77 = false := by kernel_rfl
theorem em77 : emptyO Try.prog 77 = some (.sl 1 []) := by kernel_rfl
theorem sz96 : szO Try.prog 96 = some 1 := by kernel_rfl
theorem by96 : byO Try.prog 96 = some 24 := by kernel_rfl
theorem ze96 : zeroO Try.prog 96 = some [.slice none 0 0] := by kernel_rfl
theorem ag96 : aggO Try.prog 96 = some false := by kernel_rfl
theorem el96 : elO Try.prog 96 = some 5 := by kernel_rfl
theorem st96 : strO Try.prog 96 = false := by kernel_rfl
theorem u896 : u8O Try.prog 96 = true := by kernel_rfl
theorem em96 : emptyO Try.prog 96 = some (.sl 1 []) := by kernel_rfl
theorem sz102 : szO Try.prog 102 = some 1 := by kernel_rfl
theorem by102 : byO Try.prog 102 = some 8 := by kernel_rfl
theorem ze102 : zeroO Try.prog 102 = some [.int .u64 0] := by kernel_rfl
theorem ag102 : aggO Try.prog 102 = some false := by kernel_rfl
theorem el102 : elO Try.prog 102 = none := by kernel_rfl
theorem in102 : intO Try.prog 102 = some .u64 := by kernel_rfl
theorem st102 : strO Try.prog 102 = false := by kernel_rfl
theorem u8102 : u8O Try.prog 102 = false := by kernel_rfl
theorem em102 : emptyO Try.prog 102 = some (.ints .u64 []) := by kernel_rfl
theorem sz103 : szO Try.prog 103 = some 1 := by kernel_rfl
theorem by103 : byO Try.prog 103 = some 8 := by kernel_rfl
theorem ze103 : zeroO Try.prog 103 = some [.int .u64 0] := by kernel_rfl
theorem ag103 : aggO Try.prog 103 = some false := by kernel_rfl
theorem el103 : elO Try.prog 103 = none := by kernel_rfl
theorem in103 : intO Try.prog 103 = some .u64 := by kernel_rfl
theorem st103 : strO Try.prog 103 = false := by kernel_rfl
theorem u8103 : u8O Try.prog 103 = false := by kernel_rfl
theorem em103 : emptyO Try.prog 103 = some (.ints .u64 []) := by kernel_rfl
theorem sz130 : szO Try.prog 130 = some 1 := by kernel_rfl
theorem by130 : byO Try.prog 130 = some 8 := by kernel_rfl
theorem ze130 : zeroO Try.prog 130 = some [.pointer none] := by kernel_rfl
theorem ag130 : aggO Try.prog 130 = some false := by kernel_rfl
theorem el130 : elO Try.prog 130 = none := by kernel_rfl
theorem st130 : strO Try.prog 130 = false := by kernel_rfl
theorem u8130 : u8O Try.prog 130 = false := by kernel_rfl
theorem em130 : emptyO Try.prog 130 = some (.sl 1 []) := by kernel_rfl
theorem sz141 : szO Try.prog 141 = some 1 := by kernel_rfl
theorem by141 : byO Try.prog 141 = some 8 := by kernel_rfl
theorem ze141 : zeroO Try.prog 141 = some [.pointer none] := by kernel_rfl
theorem ag141 : aggO Try.prog 141 = some false := by kernel_rfl
theorem el141 : elO Try.prog 141 = none := by kernel_rfl
theorem st141 : strO Try.prog 141 = false := by kernel_rfl
theorem u8141 : u8O Try.prog 141 = false := by kernel_rfl
theorem em141 : emptyO Try.prog 141 = some (.sl 1 []) := by kernel_rfl
theorem sz146 : szO Try.prog 146 = some 1 := by kernel_rfl
theorem by146 : byO Try.prog 146 = some 16 := by kernel_rfl
theorem ze146 : zeroO Try.prog 146 = some [.string ByteArray.empty] := by kernel_rfl
theorem ag146 : aggO Try.prog 146 = some true := by kernel_rfl
theorem el146 : elO Try.prog 146 = none := by kernel_rfl
theorem st146 : strO Try.prog 146 = false := by kernel_rfl
theorem u8146 : u8O Try.prog 146 = false := by kernel_rfl
theorem em146 : emptyO Try.prog 146 = some (.sl 1 []) := by kernel_rfl
theorem fd146_0 : fldO Try.prog 146 0 = some (0, 9) := by kernel_rfl
theorem pl146 : plO Try.prog 146 = some [(0, 1)] := by kernel_rfl
theorem sz147 : szO Try.prog 147 = some 1 := by kernel_rfl
theorem by147 : byO Try.prog 147 = some 16 := by kernel_rfl
theorem ze147 : zeroO Try.prog 147 = some [.string ByteArray.empty] := by kernel_rfl
theorem ag147 : aggO Try.prog 147 = some true := by kernel_rfl
theorem el147 : elO Try.prog 147 = none := by kernel_rfl
theorem st147 : strO Try.prog 147 = false := by kernel_rfl
theorem u8147 : u8O Try.prog 147 = false := by kernel_rfl
theorem em147 : emptyO Try.prog 147 = some (.sl 1 []) := by kernel_rfl
theorem fd147_0 : fldO Try.prog 147 0 = some (0, 9) := by kernel_rfl
theorem pl147 : plO Try.prog 147 = some [(0, 1)] := by kernel_rfl
attribute [go_sem] sz2 by2 ze2 ag2 el2 in2 st2 u82 em2 Try.underlying2 sz3 by3 ze3 ag3 el3 in3 st3 u83 em3 Try.underlying3 sz4 by4 ze4 ag4 el4 st4 u84 em4 Try.underlying4 sz5 by5 ze5 ag5 el5 in5 st5 u85 em5 Try.underlying5 sz9 by9 ze9 ag9 el9 st9 u89 em9 Try.underlying9 sz12 by12 ze12 ag12 el12 in12 st12 u812 em12 Try.underlying12 sz13 by13 ze13 ag13 el13 st13 u813 em13 fd13_0 fd13_1 pl13 Try.underlying13 sz21 by21 ze21 ag21 el21 in21 st21 u821 em21 Try.underlying21 sz22 by22 ze22 ag22 el22 st22 u822 em22 Try.underlying22 sz23 by23 ze23 ag23 el23 st23 u823 em23 fd23_0 fd23_1 pl23 Try.underlying23 sz24 by24 ze24 ag24 el24 st24 u824 em24 fd24_0 fd24_1 pl24 Try.underlying24 sz26 by26 ze26 ag26 el26 st26 u826 em26 fd26_0 fd26_1 pl26 Try.underlying26 sz27 by27 ze27 ag27 el27 st27 u827 em27 fd27_0 fd27_1 pl27 Try.underlying27 sz36 by36 ze36 ag36 el36 st36 u836 em36 Try.underlying36 sz37 by37 ze37 ag37 el37 st37 u837 em37 Try.underlying37 sz38 by38 ze38 ag38 el38 st38 u838 em38 fd38_0 fd38_1 pl38 Try.underlying38 sz39 by39 ze39 ag39 el39 st39 u839 em39 fd39_0 fd39_1 pl39 Try.underlying39 sz64 by64 ze64 ag64 el64 st64 u864 em64 Try.underlying64 sz73 by73 ze73 ag73 el73 in73 st73 u873 em73 Try.underlying73 sz77 by77 ze77 ag77 el77 st77 u877 em77 Try.underlying77 sz96 by96 ze96 ag96 el96 st96 u896 em96 Try.underlying96 sz102 by102 ze102 ag102 el102 in102 st102 u8102 em102 Try.underlying102 sz103 by103 ze103 ag103 el103 in103 st103 u8103 em103 Try.underlying103 sz130 by130 ze130 ag130 el130 st130 u8130 em130 Try.underlying130 sz141 by141 ze141 ag141 el141 st141 u8141 em141 Try.underlying141 sz146 by146 ze146 ag146 el146 st146 u8146 em146 fd146_0 pl146 Try.underlying146 sz147 by147 ze147 ag147 el147 st147 u8147 em147 fd147_0 pl147 Try.underlying147

end Go.Proofs.Ythfgapbcdhajiaa
