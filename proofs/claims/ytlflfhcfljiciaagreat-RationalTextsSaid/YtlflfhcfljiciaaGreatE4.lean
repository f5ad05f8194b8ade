import Derived.Test.YtlflfhcfljiciaaGreatE3
import Derived.Test.YtlflfhcfljiciaaGreatRows
namespace Go.Proofs.YtlflfhcfljiciaaGreat
set_option linter.unusedSimpArgs false
set_option linter.unusedVariables false
open Go.Abs
theorem sz2 : szO Tryz.prog 2 = some 1 := by kernel_rfl
theorem by2 : byO Tryz.prog 2 = some 8 := by kernel_rfl
theorem ze2 : zeroO Tryz.prog 2 = some [.int .i64 0] := by kernel_rfl
theorem ag2 : aggO Tryz.prog 2 = some false := by kernel_rfl
theorem el2 : elO Tryz.prog 2 = none := by kernel_rfl
theorem in2 : intO Tryz.prog 2 = some .i64 := by kernel_rfl
theorem st2 : strO Tryz.prog 2 = false := by kernel_rfl
theorem u82 : u8O Tryz.prog 2 = false := by kernel_rfl
theorem em2 : emptyO Tryz.prog 2 = some (.ints .i64 []) := by kernel_rfl
theorem sz3 : szO Tryz.prog 3 = some 1 := by kernel_rfl
theorem by3 : byO Tryz.prog 3 = some 8 := by kernel_rfl
theorem ze3 : zeroO Tryz.prog 3 = some [.int .i64 0] := by kernel_rfl
theorem ag3 : aggO Tryz.prog 3 = some false := by kernel_rfl
theorem el3 : elO Tryz.prog 3 = none := by kernel_rfl
theorem in3 : intO Tryz.prog 3 = some .i64 := by kernel_rfl
theorem st3 : strO Tryz.prog 3 = false := by kernel_rfl
theorem u83 : u8O Tryz.prog 3 = false := by kernel_rfl
theorem em3 : emptyO Tryz.prog 3 = some (.ints .i64 []) := by kernel_rfl
theorem sz4 : szO Tryz.prog 4 = some 1 := by kernel_rfl
theorem by4 : byO Tryz.prog 4 = some 1 := by kernel_rfl
theorem ze4 : zeroO Tryz.prog 4 = some [.bool false] := by kernel_rfl
theorem ag4 : aggO Tryz.prog 4 = some false := by kernel_rfl
theorem el4 : elO Tryz.prog 4 = none := by kernel_rfl
theorem st4 : strO Tryz.prog 4 = false := by kernel_rfl
theorem u84 : u8O Tryz.prog 4 = false := by kernel_rfl
theorem em4 : emptyO Tryz.prog 4 = some (.bools []) := by kernel_rfl
theorem sz5 : szO Tryz.prog 5 = some 1 := by kernel_rfl
theorem by5 : byO Tryz.prog 5 = some 1 := by kernel_rfl
theorem ze5 : zeroO Tryz.prog 5 = some [.int .u8 0] := by kernel_rfl
theorem ag5 : aggO Tryz.prog 5 = some false := by kernel_rfl
theorem el5 : elO Tryz.prog 5 = none := by kernel_rfl
theorem in5 : intO Tryz.prog 5 = some .u8 := by kernel_rfl
theorem st5 : strO Tryz.prog 5 = false := by kernel_rfl
theorem u85 : u8O Tryz.prog 5 = false := by kernel_rfl
theorem em5 : emptyO Tryz.prog 5 = some (.ints .u8 []) := by kernel_rfl
theorem sz9 : szO Tryz.prog 9 = some 1 := by kernel_rfl
theorem by9 : byO Tryz.prog 9 = some 16 := by kernel_rfl
theorem ze9 : zeroO Tryz.prog 9 = some [.string ByteArray.empty] := by kernel_rfl
theorem ag9 : aggO Tryz.prog 9 = some false := by kernel_rfl
theorem el9 : elO Tryz.prog 9 = none := by kernel_rfl
theorem st9 : strO Tryz.prog 9 = true := by kernel_rfl
theorem u89 : u8O Tryz.prog 9 = false := by kernel_rfl
theorem em9 : emptyO Tryz.prog 9 = some (.sl 1 []) := by kernel_rfl
theorem sz12 : szO Tryz.prog 12 = some 1 := by kernel_rfl
theorem by12 : byO Tryz.prog 12 = some 8 := by kernel_rfl
theorem ze12 : zeroO Tryz.prog 12 = some [.int .u64 0] := by kernel_rfl
theorem ag12 : aggO Tryz.prog 12 = some false := by kernel_rfl
theorem el12 : elO Tryz.prog 12 = none := by kernel_rfl
theorem in12 : intO Tryz.prog 12 = some .u64 := by kernel_rfl
theorem st12 : strO Tryz.prog 12 = false := by kernel_rfl
theorem u812 : u8O Tryz.prog 12 = false := by kernel_rfl
theorem em12 : emptyO Tryz.prog 12 = some (.ints .u64 []) := by kernel_rfl
theorem sz13 : szO Tryz.prog 13 = some 2 := by kernel_rfl
theorem by13 : byO Tryz.prog 13 = some 24 := by kernel_rfl
theorem ze13 : zeroO Tryz.prog 13 = some [.string ByteArray.empty, .int .u64 0] := by kernel_rfl
theorem ag13 : aggO Tryz.prog 13 = some true := by kernel_rfl
theorem el13 : elO Tryz.prog 13 = none := by kernel_rfl
theorem st13 : strO Tryz.prog 13 = false := by kernel_rfl
theorem u813 : u8O Tryz.prog 13 = false := by kernel_rfl
theorem em13 : emptyO Tryz.prog 13 = some (.sl 2 []) := by kernel_rfl
theorem fd13_0 : fldO Tryz.prog 13 0 = some (0, 9) := by kernel_rfl
theorem fd13_1 : fldO Tryz.prog 13 1 = some (1, 12) := by kernel_rfl
theorem pl13 : plO Tryz.prog 13 = some [(0, 1), (1, 1)] := by kernel_rfl
theorem sz21 : szO Tryz.prog 21 = some 1 := by kernel_rfl
theorem by21 : byO Tryz.prog 21 = some 4 := by kernel_rfl
theorem ze21 : zeroO Tryz.prog 21 = some [.int .i32 0] := by kernel_rfl
theorem ag21 : aggO Tryz.prog 21 = some false := by kernel_rfl
theorem el21 : elO Tryz.prog 21 = none := by kernel_rfl
theorem in21 : intO Tryz.prog 21 = some .i32 := by kernel_rfl
theorem st21 : strO Tryz.prog 21 = false := by kernel_rfl
theorem u821 : u8O Tryz.prog 21 = false := by kernel_rfl
theorem em21 : emptyO Tryz.prog 21 = some (.ints .i32 []) := by kernel_rfl
theorem sz22 : szO Tryz.prog 22 = some 1 := by kernel_rfl
theorem by22 : byO Tryz.prog 22 = some 24 := by kernel_rfl
theorem ze22 : zeroO Tryz.prog 22 = some [.slice none 0 0] := by kernel_rfl
theorem ag22 : aggO Tryz.prog 22 = some false := by kernel_rfl
theorem el22 : elO Tryz.prog 22 = some 56 := by kernel_rfl
theorem st22 : strO Tryz.prog 22 = false := by kernel_rfl
theorem u822 : u8O Tryz.prog 22 = false := by kernel_rfl
theorem em22 : emptyO Tryz.prog 22 = some (.sl 1 []) := by kernel_rfl
theorem sz23 : szO Tryz.prog 23 = some 2 := by kernel_rfl
theorem by23 : byO Tryz.prog 23 = some 32 := by kernel_rfl
theorem ze23 : zeroO Tryz.prog 23 = some [.bool false, .slice none 0 0] := by kernel_rfl
theorem ag23 : aggO Tryz.prog 23 = some true := by kernel_rfl
theorem el23 : elO Tryz.prog 23 = none := by kernel_rfl
theorem st23 : strO Tryz.prog 23 = false := by kernel_rfl
theorem u823 : u8O Tryz.prog 23 = false := by kernel_rfl
theorem em23 : emptyO Tryz.prog 23 = some (.sl 2 []) := by kernel_rfl
theorem fd23_0 : fldO Tryz.prog 23 0 = some (0, 4) := by kernel_rfl
theorem fd23_1 : fldO Tryz.prog 23 1 = some (1, 22) := by kernel_rfl
theorem pl23 : plO Tryz.prog 23 = some [(0, 1), (1, 1)] := by kernel_rfl
theorem sz24 : szO Tryz.prog 24 = some 2 := by kernel_rfl
theorem by24 : byO Tryz.prog 24 = some 32 := by kernel_rfl
theorem ze24 : zeroO Tryz.prog 24 = some [.bool false, .slice none 0 0] := by kernel_rfl
theorem ag24 : aggO Tryz.prog 24 = some true := by kernel_rfl
theorem el24 : elO Tryz.prog 24 = none := by kernel_rfl
theorem st24 : strO Tryz.prog 24 = false := by kernel_rfl
theorem u824 : u8O Tryz.prog 24 = false := by kernel_rfl
theorem em24 : emptyO Tryz.prog 24 = some (.sl 2 []) := by kernel_rfl
theorem fd24_0 : fldO Tryz.prog 24 0 = some (0, 4) := by kernel_rfl
theorem fd24_1 : fldO Tryz.prog 24 1 = some (1, 22) := by kernel_rfl
theorem pl24 : plO Tryz.prog 24 = some [(0, 1), (1, 1)] := by kernel_rfl
theorem sz25 : szO Tryz.prog 25 = some 4 := by kernel_rfl
theorem by25 : byO Tryz.prog 25 = some 64 := by kernel_rfl
theorem ze25 : zeroO Tryz.prog 25 = some [.bool false, .slice none 0 0, .bool false, .slice none 0 0] := by kernel_rfl
theorem ag25 : aggO Tryz.prog 25 = some true := by kernel_rfl
theorem el25 : elO Tryz.prog 25 = none := by kernel_rfl
theorem st25 : strO Tryz.prog 25 = false := by kernel_rfl
theorem u825 : u8O Tryz.prog 25 = false := by kernel_rfl
theorem em25 : emptyO Tryz.prog 25 = some (.sl 4 []) := by kernel_rfl
theorem fd25_0 : fldO Tryz.prog 25 0 = some (0, 24) := by kernel_rfl
theorem fd25_1 : fldO Tryz.prog 25 1 = some (2, 24) := by kernel_rfl
theorem pl25 : plO Tryz.prog 25 = some [(0, 2), (2, 2)] := by kernel_rfl
theorem sz26 : szO Tryz.prog 26 = some 4 := by kernel_rfl
theorem by26 : byO Tryz.prog 26 = some 64 := by kernel_rfl
theorem ze26 : zeroO Tryz.prog 26 = some [.bool false, .slice none 0 0, .bool false, .slice none 0 0] := by kernel_rfl
theorem ag26 : aggO Tryz.prog 26 = some true := by kernel_rfl
theorem el26 : elO Tryz.prog 26 = none := by kernel_rfl
theorem st26 : strO Tryz.prog 26 = false := by kernel_rfl
theorem u826 : u8O Tryz.prog 26 = false := by kernel_rfl
theorem em26 : emptyO Tryz.prog 26 = some (.sl 4 []) := by kernel_rfl
theorem fd26_0 : fldO Tryz.prog 26 0 = some (0, 24) := by kernel_rfl
theorem fd26_1 : fldO Tryz.prog 26 1 = some (2, 24) := by kernel_rfl
theorem pl26 : plO Tryz.prog 26 = some [(0, 2), (2, 2)] := by kernel_rfl
theorem sz27 : szO Tryz.prog 27 = some 2 := by kernel_rfl
theorem by27 : byO Tryz.prog 27 = some 16 := by kernel_rfl
theorem ze27 : zeroO Tryz.prog 27 = some [.int .i64 0, .int .i64 0] := by kernel_rfl
theorem ag27 : aggO Tryz.prog 27 = some true := by kernel_rfl
theorem el27 : elO Tryz.prog 27 = none := by kernel_rfl
theorem st27 : strO Tryz.prog 27 = false := by kernel_rfl
theorem u827 : u8O Tryz.prog 27 = false := by kernel_rfl
theorem em27 : emptyO Tryz.prog 27 = some (.sl 2 []) := by kernel_rfl
theorem fd27_0 : fldO Tryz.prog 27 0 = some (0, 3) := by kernel_rfl
theorem fd27_1 : fldO Tryz.prog 27 1 = some (1, 3) := by kernel_rfl
theorem pl27 : plO Tryz.prog 27 = some [(0, 1), (1, 1)] := by kernel_rfl
theorem sz28 : szO Tryz.prog 28 = some 2 := by kernel_rfl
theorem by28 : byO Tryz.prog 28 = some 16 := by kernel_rfl
theorem ze28 : zeroO Tryz.prog 28 = some [.int .i64 0, .int .i64 0] := by kernel_rfl
theorem ag28 : aggO Tryz.prog 28 = some true := by kernel_rfl
theorem el28 : elO Tryz.prog 28 = none := by kernel_rfl
theorem st28 : strO Tryz.prog 28 = false := by kernel_rfl
theorem u828 : u8O Tryz.prog 28 = false := by kernel_rfl
theorem em28 : emptyO Tryz.prog 28 = some (.sl 2 []) := by kernel_rfl
theorem fd28_0 : fldO Tryz.prog 28 0 = some (0, 3) := by kernel_rfl
theorem fd28_1 : fldO Tryz.prog 28 1 = some (1, 3) := by kernel_rfl
theorem pl28 : plO Tryz.prog 28 = some [(0, 1), (1, 1)] := by kernel_rfl
theorem sz35 : szO Tryz.prog 35 = some 1 := by kernel_rfl
theorem by35 : byO Tryz.prog 35 = some 24 := by kernel_rfl
theorem ze35 : zeroO Tryz.prog 35 = some [.slice none 0 0] := by kernel_rfl
theorem ag35 : aggO Tryz.prog 35 = some false := by kernel_rfl
theorem el35 : elO Tryz.prog 35 = some 3 := by kernel_rfl
theorem st35 : strO Tryz.prog 35 = false := by kernel_rfl
theorem u835 : u8O Tryz.prog 35 = false := by kernel_rfl
theorem em35 : emptyO Tryz.prog 35 = some (.sl 1 []) := by kernel_rfl
theorem sz36 : szO Tryz.prog 36 = some 1 := by kernel_rfl
theorem by36 : byO Tryz.prog 36 = some 24 := by kernel_rfl
theorem ze36 : zeroO Tryz.prog 36 = some [.slice none 0 0] := by kernel_rfl
theorem ag36 : aggO Tryz.prog 36 = some false := by kernel_rfl
theorem el36 : elO Tryz.prog 36 = some 3 := by kernel_rfl
theorem st36 : strO Tryz.prog 36 = false := by kernel_rfl
theorem u836 : u8O Tryz.prog 36 = false := by kernel_rfl
theorem em36 : emptyO Tryz.prog 36 = some (.sl 1 []) := by kernel_rfl
theorem sz37 : szO Tryz.prog 37 = some 2 := by kernel_rfl
theorem by37 : byO Tryz.prog 37 = some 32 := by kernel_rfl
theorem ze37 : zeroO Tryz.prog 37 = some [.bool false, .slice none 0 0] := by kernel_rfl
theorem ag37 : aggO Tryz.prog 37 = some true := by kernel_rfl
theorem el37 : elO Tryz.prog 37 = none := by kernel_rfl
theorem st37 : strO Tryz.prog 37 = false := by kernel_rfl
theorem u837 : u8O Tryz.prog 37 = false := by kernel_rfl
theorem em37 : emptyO Tryz.prog 37 = some (.sl 2 []) := by kernel_rfl
theorem fd37_0 : fldO Tryz.prog 37 0 = some (0, 4) := by kernel_rfl
theorem fd37_1 : fldO Tryz.prog 37 1 = some (1, 36) := by kernel_rfl
theorem pl37 : plO Tryz.prog 37 = some [(0, 1), (1, 1)] := by kernel_rfl
theorem sz38 : szO Tryz.prog 38 = some 2 := by kernel_rfl
theorem by38 : byO Tryz.prog 38 = some 32 := by kernel_rfl
theorem ze38 : zeroO Tryz.prog 38 = some [.bool false, .slice none 0 0] := by kernel_rfl
theorem ag38 : aggO Tryz.prog 38 = some true := by kernel_rfl
theorem el38 : elO Tryz.prog 38 = none := by kernel_rfl
theorem st38 : strO Tryz.prog 38 = false := by kernel_rfl
theorem u838 : u8O Tryz.prog 38 = false := by kernel_rfl
theorem em38 : emptyO Tryz.prog 38 = some (.sl 2 []) := by kernel_rfl
theorem fd38_0 : fldO Tryz.prog 38 0 = some (0, 4) := by kernel_rfl
theorem fd38_1 : fldO Tryz.prog 38 1 = some (1, 36) := by kernel_rfl
theorem pl38 : plO Tryz.prog 38 = some [(0, 1), (1, 1)] := by kernel_rfl
theorem sz39 : szO Tryz.prog 39 = some 3 := by kernel_rfl
theorem by39 : byO Tryz.prog 39 = some 56 := by kernel_rfl
theorem ze39 : zeroO Tryz.prog 39 = some [.bool false, .slice none 0 0, .slice none 0 0] := by kernel_rfl
theorem ag39 : aggO Tryz.prog 39 = some true := by kernel_rfl
theorem el39 : elO Tryz.prog 39 = none := by kernel_rfl
theorem st39 : strO Tryz.prog 39 = false := by kernel_rfl
theorem u839 : u8O Tryz.prog 39 = false := by kernel_rfl
theorem em39 : emptyO Tryz.prog 39 = some (.sl 3 []) := by kernel_rfl
theorem fd39_0 : fldO Tryz.prog 39 0 = some (0, 38) := by kernel_rfl
theorem fd39_1 : fldO Tryz.prog 39 1 = some (2, 36) := by kernel_rfl
theorem pl39 : plO Tryz.prog 39 = some [(0, 2), (2, 1)] := by kernel_rfl
theorem sz40 : szO Tryz.prog 40 = some 3 := by kernel_rfl
theorem by40 : byO Tryz.prog 40 = some 56 := by kernel_rfl
theorem ze40 : zeroO Tryz.prog 40 = some [.bool false, .slice none 0 0, .slice none 0 0] := by kernel_rfl
theorem ag40 : aggO Tryz.prog 40 = some true := by kernel_rfl
theorem el40 : elO Tryz.prog 40 = none := by kernel_rfl
theorem st40 : strO Tryz.prog 40 = false := by kernel_rfl
theorem u840 : u8O Tryz.prog 40 = false := by kernel_rfl
theorem em40 : emptyO Tryz.prog 40 = some (.sl 3 []) := by kernel_rfl
theorem fd40_0 : fldO Tryz.prog 40 0 = some (0, 38) := by kernel_rfl
theorem fd40_1 : fldO Tryz.prog 40 1 = some (2, 36) := by kernel_rfl
theorem pl40 : plO Tryz.prog 40 = some [(0, 2), (2, 1)] := by kernel_rfl
theorem sz56 : szO Tryz.prog 56 = some 1 := by kernel_rfl
theorem by56 : byO Tryz.prog 56 = some 4 := by kernel_rfl
theorem ze56 : zeroO Tryz.prog 56 = some [.int .u32 0] := by kernel_rfl
theorem ag56 : aggO Tryz.prog 56 = some false := by kernel_rfl
theorem el56 : elO Tryz.prog 56 = none := by kernel_rfl
theorem in56 : intO Tryz.prog 56 = some .u32 := by kernel_rfl
theorem st56 : strO Tryz.prog 56 = false := by kernel_rfl
theorem u856 : u8O Tryz.prog 56 = false := by kernel_rfl
theorem em56 : emptyO Tryz.prog 56 = some (.ints .u32 []) := by kernel_rfl
theorem sz66 : szO Tryz.prog 66 = some 1 := by kernel_rfl
theorem by66 : byO Tryz.prog 66 = some 24 := by kernel_rfl
theorem ze66 : zeroO Tryz.prog 66 = some [.slice none 0 0] := by kernel_rfl
theorem ag66 : aggO Tryz.prog 66 = some false := by kernel_rfl
theorem el66 : elO Tryz.prog 66 = some 26 := by kernel_rfl
theorem st66 : strO Tryz.prog 66 = false := by kernel_rfl
theorem u866 : u8O Tryz.prog 66 = false := by kernel_rfl
theorem em66 : emptyO Tryz.prog 66 = some (.sl 1 []) := by kernel_rfl
theorem sz70 : szO Tryz.prog 70 = some 1 := by kernel_rfl
theorem by70 : byO Tryz.prog 70 = some 24 := by kernel_rfl
theorem ze70 : zeroO Tryz.prog 70 = some [.slice none 0 0] := by kernel_rfl
theorem ag70 : aggO Tryz.prog 70 = some false := by kernel_rfl
theorem el70 : elO Tryz.prog 70 = some 5 := by kernel_rfl
theorem st70 : strO Tryz.prog 70 = false := by kernel_rfl
theorem u870 : u8O Tryz.prog 70 = true := by kernel_rfl
theorem em70 : emptyO Tryz.prog 70 = some (.sl 1 []) := by kernel_rfl
theorem sz72 : szO Tryz.prog 72 = some 1 := by kernel_rfl
theorem by72 : byO Tryz.prog 72 = some 24 := by kernel_rfl
theorem ze72 : zeroO Tryz.prog 72 = some [.slice none 0 0] := by kernel_rfl
theorem ag72 : aggO Tryz.prog 72 = some false := by kernel_rfl
theorem el72 : elO Tryz.prog 72 = some 4 := by kernel_rfl
theorem st72 : strO Tryz.prog 72 = false := by kernel_rfl
theorem u872 : u8O Tryz.prog 72 = false := by kernel_rfl
theorem em72 : emptyO Tryz.prog 72 = some (.sl 1 []) := by kernel_rfl
theorem sz87 : szO Tryz.prog 87 = some 1 := by kernel_rfl
theorem by87 : byO Tryz.prog 87 = some 8 := by kernel_rfl
theorem ze87 : zeroO Tryz.prog 87 = some [.int .u64 0] := by kernel_rfl
theorem ag87 : aggO Tryz.prog 87 = some false := by kernel_rfl
theorem el87 : elO Tryz.prog 87 = none := by kernel_rfl
theorem in87 : intO Tryz.prog 87 = some .u64 := by kernel_rfl
theorem st87 : strO Tryz.prog 87 = false := by kernel_rfl
theorem u887 : u8O Tryz.prog 87 = false := by kernel_rfl
theorem em87 : emptyO Tryz.prog 87 = some (.ints .u64 []) := by kernel_rfl
theorem sz88 : szO Tryz.prog 88 = some 1 := by kernel_rfl
theorem by88 : byO Tryz.prog 88 = some 8 := by kernel_rfl
theorem ze88 : zeroO Tryz.prog 88 = some [.int .u64 0] := by kernel_rfl
theorem ag88 : aggO Tryz.prog 88 = some false := by kernel_rfl
theorem el88 : elO Tryz.prog 88 = none := by kernel_rfl
theorem in88 : intO Tryz.prog 88 = some .u64 := by kernel_rfl
theorem st88 : strO Tryz.prog 88 = false := by kernel_rfl
theorem u888 : u8O Tryz.prog 88 = false := by kernel_rfl
theorem em88 : emptyO Tryz.prog 88 = some (.ints .u64 []) := by kernel_rfl
theorem sz94 : szO Tryz.prog 94 = some 1 := by kernel_rfl
theorem by94 : byO Tryz.prog 94 = some 24 := by kernel_rfl
theorem ze94 : zeroO Tryz.prog 94 = some [.slice none 0 0] := by kernel_rfl
theorem ag94 : aggO Tryz.prog 94 = some false := by kernel_rfl
theorem el94 : elO Tryz.prog 94 = some 24 := by kernel_rfl
theorem st94 : strO Tryz.prog 94 = false := by kernel_rfl
theorem u894 : u8O Tryz.prog 94 = false := by kernel_rfl
theorem em94 : emptyO Tryz.prog 94 = some (.sl 1 []) := by kernel_rfl
theorem sz111 : szO Tryz.prog 111 = some 4 := by kernel_rfl
theorem by111 : byO Tryz.prog 111 = some 64 := by kernel_rfl
theorem ze111 : zeroO Tryz.prog 111 = some [.bool false, .slice none 0 0, .bool false, .slice none 0 0] := by kernel_rfl
theorem ag111 : aggO Tryz.prog 111 = some true := by kernel_rfl
theorem el111 : elO Tryz.prog 111 = none := by kernel_rfl
theorem st111 : strO Tryz.prog 111 = false := by kernel_rfl
theorem u8111 : u8O Tryz.prog 111 = false := by kernel_rfl
theorem em111 : emptyO Tryz.prog 111 = some (.sl 4 []) := by kernel_rfl
theorem fd111_0 : fldO Tryz.prog 111 0 = some (0, 24) := by kernel_rfl
theorem fd111_1 : fldO Tryz.prog 111 1 = some (2, 24) := by kernel_rfl
theorem pl111 : plO Tryz.prog 111 = some [(0, 2), (2, 2)] := by kernel_rfl
theorem sz112 : szO Tryz.prog 112 = some 4 := by kernel_rfl
theorem by112 : byO Tryz.prog 112 = some 64 := by kernel_rfl
theorem ze112 : zeroO Tryz.prog 112 = some [.bool false, .slice none 0 0, .bool false, .slice none 0 0] := by kernel_rfl
theorem ag112 : aggO Tryz.prog 112 = some true := by kernel_rfl
theorem el112 : elO Tryz.prog 112 = none := by kernel_rfl
theorem st112 : strO Tryz.prog 112 = false := by kernel_rfl
theorem u8112 : u8O Tryz.prog 112 = false := by kernel_rfl
theorem em112 : emptyO Tryz.prog 112 = some (.sl 4 []) := by kernel_rfl
theorem fd112_0 : fldO Tryz.prog 112 0 = some (0, 24) := by kernel_rfl
theorem fd112_1 : fldO Tryz.prog 112 1 = some (2, 24) := by kernel_rfl
theorem pl112 : plO Tryz.prog 112 = some [(0, 2), (2, 2)] := by kernel_rfl
theorem sz131 : szO Tryz.prog 131 = some 1 := by kernel_rfl
theorem by131 : byO Tryz.prog 131 = some 8 := by kernel_rfl
theorem ze131 : zeroO Tryz.prog 131 = some [.pointer none] := by kernel_rfl
theorem ag131 : aggO Tryz.prog 131 = some false := by kernel_rfl
theorem el131 : elO Tryz.prog 131 = none := by kernel_rfl
theorem st131 : strO Tryz.prog 131 = false := by kernel_rfl
theorem u8131 : u8O Tryz.prog 131 = false := by kernel_rfl
theorem em131 : emptyO Tryz.prog 131 = some (.sl 1 []) := by kernel_rfl
theorem sz142 : szO Tryz.prog 142 = some 1 := by kernel_rfl
theorem by142 : byO Tryz.prog 142 = some 8 := by kernel_rfl
theorem ze142 : zeroO Tryz.prog 142 = some [.pointer none] := by kernel_rfl
theorem ag142 : aggO Tryz.prog 142 = some false := by kernel_rfl
theorem el142 : elO Tryz.prog 142 = none := by kernel_rfl
theorem st142 : strO Tryz.prog 142 = false := by kernel_rfl
theorem u8142 : u8O Tryz.prog 142 = false := by kernel_rfl
theorem em142 : emptyO Tryz.prog 142 = some (.sl 1 []) := by kernel_rfl
theorem sz147 : szO Tryz.prog 147 = some 1 := by kernel_rfl
theorem by147 : byO Tryz.prog 147 = some 16 := by kernel_rfl
theorem ze147 : zeroO Tryz.prog 147 = some [.string ByteArray.empty] := by kernel_rfl
theorem ag147 : aggO Tryz.prog 147 = some true := by kernel_rfl
theorem el147 : elO Tryz.prog 147 = none := by kernel_rfl
theorem st147 : strO Tryz.prog 147 = false := by kernel_rfl
theorem u8147 : u8O Tryz.prog 147 = false := by kernel_rfl
theorem em147 : emptyO Tryz.prog 147 = some (.sl 1 []) := by kernel_rfl
theorem fd147_0 : fldO Tryz.prog 147 0 = some (0, 9) := by kernel_rfl
theorem pl147 : plO Tryz.prog 147 = some [(0, 1)] := by kernel_rfl
theorem sz148 : szO Tryz.prog 148 = some 1 := by kernel_rfl
theorem by148 : byO Tryz.prog 148 = some 16 := by kernel_rfl
theorem ze148 : zeroO Tryz.prog 148 = some [.string ByteArray.empty] := by kernel_rfl
theorem ag148 : aggO Tryz.prog 148 = some true := by kernel_rfl
theorem el148 : elO Tryz.prog 148 = none := by kernel_rfl
theorem st148 : strO Tryz.prog 148 = false := by kernel_rfl
theorem u8148 : u8O Tryz.prog 148 = false := by kernel_rfl
theorem em148 : emptyO Tryz.prog 148 = some (.sl 1 []) := by kernel_rfl
theorem fd148_0 : fldO Tryz.prog 148 0 = some (0, 9) := by kernel_rfl
theorem pl148 : plO Tryz.prog 148 = some [(0, 1)] := by kernel_rfl
attribute [go_sem] sz2 by2 ze2 ag2 el2 in2 st2 u82 em2 Tryz.underlying2 sz3 by3 ze3 ag3 el3 in3 st3 u83 em3 Tryz.underlying3 sz4 by4 ze4 ag4 el4 st4 u84 em4 Tryz.underlying4 sz5 by5 ze5 ag5 el5 in5 st5 u85 em5 Tryz.underlying5 sz9 by9 ze9 ag9 el9 st9 u89 em9 Tryz.underlying9 sz12 by12 ze12 ag12 el12 in12 st12 u812 em12 Tryz.underlying12 sz13 by13 ze13 ag13 el13 st13 u813 em13 fd13_0 fd13_1 pl13 Tryz.underlying13 sz21 by21 ze21 ag21 el21 in21 st21 u821 em21 Tryz.underlying21 sz22 by22 ze22 ag22 el22 st22 u822 em22 Tryz.underlying22 sz23 by23 ze23 ag23 el23 st23 u823 em23 fd23_0 fd23_1 pl23 Tryz.underlying23 sz24 by24 ze24 ag24 el24 st24 u824 em24 fd24_0 fd24_1 pl24 Tryz.underlying24 sz25 by25 ze25 ag25 el25 st25 u825 em25 fd25_0 fd25_1 pl25 Tryz.underlying25 sz26 by26 ze26 ag26 el26 st26 u826 em26 fd26_0 fd26_1 pl26 Tryz.underlying26 sz27 by27 ze27 ag27 el27 st27 u827 em27 fd27_0 fd27_1 pl27 Tryz.underlying27 sz28 by28 ze28 ag28 el28 st28 u828 em28 fd28_0 fd28_1 pl28 Tryz.underlying28 sz35 by35 ze35 ag35 el35 st35 u835 em35 Tryz.underlying35 sz36 by36 ze36 ag36 el36 st36 u836 em36 Tryz.underlying36 sz37 by37 ze37 ag37 el37 st37 u837 em37 fd37_0 fd37_1 pl37 Tryz.underlying37 sz38 by38 ze38 ag38 el38 st38 u838 em38 fd38_0 fd38_1 pl38 Tryz.underlying38 sz39 by39 ze39 ag39 el39 st39 u839 em39 fd39_0 fd39_1 pl39 Tryz.underlying39 sz40 by40 ze40 ag40 el40 st40 u840 em40 fd40_0 fd40_1 pl40 Tryz.underlying40 sz56 by56 ze56 ag56 el56 in56 st56 u856 em56 Tryz.underlying56 sz66 by66 ze66 ag66 el66 st66 u866 em66 Tryz.underlying66 sz70 by70 ze70 ag70 el70 st70 u870 em70 Tryz.underlying70 sz72 by72 ze72 ag72 el72 st72 u872 em72 Tryz.underlying72 sz87 by87 ze87 ag87 el87 in87 st87 u887 em87 Tryz.underlying87 sz88 by88 ze88 ag88 el88 in88 st88 u888 em88 Tryz.underlying88 sz94 by94 ze94 ag94 el94 st94 u894 em94 Tryz.underlying94 sz111 by111 ze111 ag111 el111 st111 u8111 em111 fd111_0 fd111_1 pl111 Tryz.underlying111 sz112 by112 ze112 ag112 el112 st112 u8112 em112 fd112_0 fd112_1 pl112 Tryz.underlying112 sz131 by131 ze131 ag131 el131 st131 u8131 em131 Tryz.underlying131 sz142 by142 ze142 ag142 el142 st142 u8142 em142 Tryz.underlying142 sz147 by147 ze147 ag147 el147 st147 u8147 em147 fd147_0 pl147 Tryz.underlying147 sz148 by148 ze148 ag148 el148 st148 u8148 em148 fd148_0 pl148 Tryz.underlying148

end Go.Proofs.YtlflfhcfljiciaaGreat
