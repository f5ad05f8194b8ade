import Derived.Test.YtmcjojbffidlbaaG3
import Derived.Test.YtmcjojbffidlbaaRows
namespace Go.Proofs.Ytmcjojbffidlbaa
set_option linter.unusedSimpArgs false
set_option linter.unusedVariables false
open Go.Abs
theorem sz2 : szO Try.prog 2 = some 1:=by kernel_rfl
theorem by2 : byO Try.prog 2 = some 8:=by kernel_rfl
theorem ze2 : zeroO Try.prog 2 = some [.int .i64 0]:=by kernel_rfl
theorem ag2 : aggO Try.prog 2 = some false:=by kernel_rfl
theorem el2 : elO Try.prog 2 = none:=by kernel_rfl
theorem in2 : intO Try.prog 2 = some .i64:=by kernel_rfl
theorem st2 : strO Try.prog 2 = false:=by kernel_rfl
theorem u82 : u8O Try.prog 2 = false:=by kernel_rfl
theorem em2 : emptyO Try.prog 2 = some (.ints .i64 []):=by kernel_rfl
theorem sz3 : szO Try.prog 3 = some 1:=by kernel_rfl
theorem by3 : byO Try.prog 3 = some 8:=by kernel_rfl
theorem ze3 : zeroO Try.prog 3 = some [.int .i64 0]:=by kernel_rfl
theorem ag3 : aggO Try.prog 3 = some false:=by kernel_rfl
theorem el3 : elO Try.prog 3 = none:=by kernel_rfl
theorem in3 : intO Try.prog 3 = some .i64:=by kernel_rfl
theorem st3 : strO Try.prog 3 = false:=by kernel_rfl
theorem u83 : u8O Try.prog 3 = false:=by kernel_rfl
theorem em3 : emptyO Try.prog 3 = some (.ints .i64 []):=by kernel_rfl
theorem sz4 : szO Try.prog 4 = some 1:=by kernel_rfl
theorem by4 : byO Try.prog 4 = some 1:=by kernel_rfl
theorem ze4 : zeroO Try.prog 4 = some [.bool false]:=by kernel_rfl
theorem ag4 : aggO Try.prog 4 = some false:=by kernel_rfl
theorem el4 : elO Try.prog 4 = none:=by kernel_rfl
theorem st4 : strO Try.prog 4 = false:=by kernel_rfl
theorem u84 : u8O Try.prog 4 = false:=by kernel_rfl
theorem em4 : emptyO Try.prog 4 = some (.bools []):=by kernel_rfl
theorem sz5 : szO Try.prog 5 = some 1:=by kernel_rfl
theorem by5 : byO Try.prog 5 = some 1:=by kernel_rfl
theorem ze5 : zeroO Try.prog 5 = some [.int .u8 0]:=by kernel_rfl
theorem ag5 : aggO Try.prog 5 = some false:=by kernel_rfl
theorem el5 : elO Try.prog 5 = none:=by kernel_rfl
theorem in5 : intO Try.prog 5 = some .u8:=by kernel_rfl
theorem st5 : strO Try.prog 5 = false:=by kernel_rfl
theorem u85 : u8O Try.prog 5 = false:=by kernel_rfl
theorem em5 : emptyO Try.prog 5 = some (.ints .u8 []):=by kernel_rfl
theorem sz9 : szO Try.prog 9 = some 1:=by kernel_rfl
theorem by9 : byO Try.prog 9 = some 16:=by kernel_rfl
theorem ze9 : zeroO Try.prog 9 = some [.string ByteArray.empty]:=by kernel_rfl
theorem ag9 : aggO Try.prog 9 = some false:=by kernel_rfl
theorem el9 : elO Try.prog 9 = none:=by kernel_rfl
theorem st9 : strO Try.prog 9 = true:=by kernel_rfl
theorem u89 : u8O Try.prog 9 = false:=by kernel_rfl
theorem em9 : emptyO Try.prog 9 = some (.sl 1 []):=by kernel_rfl
theorem sz12 : szO Try.prog 12 = some 1:=by kernel_rfl
theorem by12 : byO Try.prog 12 = some 8:=by kernel_rfl
theorem ze12 : zeroO Try.prog 12 = some [.int .u64 0]:=by kernel_rfl
theorem ag12 : aggO Try.prog 12 = some false:=by kernel_rfl
theorem el12 : elO Try.prog 12 = none:=by kernel_rfl
theorem in12 : intO Try.prog 12 = some .u64:=by kernel_rfl
theorem st12 : strO Try.prog 12 = false:=by kernel_rfl
theorem u812 : u8O Try.prog 12 = false:=by kernel_rfl
theorem em12 : emptyO Try.prog 12 = some (.ints .u64 []):=by kernel_rfl
theorem sz13 : szO Try.prog 13 = some 2:=by kernel_rfl
theorem by13 : byO Try.prog 13 = some 24:=by kernel_rfl
theorem ze13 : zeroO Try.prog 13 = some [.string ByteArray.empty,.int .u64 0]:=by kernel_rfl
theorem ag13 : aggO Try.prog 13 = some true:=by kernel_rfl
theorem el13 : elO Try.prog 13 = none:=by kernel_rfl
theorem st13 : strO Try.prog 13 = false:=by kernel_rfl
theorem u813 : u8O Try.prog 13 = false:=by kernel_rfl
theorem em13 : emptyO Try.prog 13 = some (.sl 2 []):=by kernel_rfl
theorem fd13_0 : fldO Try.prog 13 0 = some (0,9):=by kernel_rfl
theorem fd13_1 : fldO Try.prog 13 1 = some (1,12):=by kernel_rfl
theorem pl13 : plO Try.prog 13 = some [(0,1),(1,1)]:=by kernel_rfl
theorem sz21 : szO Try.prog 21 = some 1:=by kernel_rfl
theorem by21 : byO Try.prog 21 = some 4:=by kernel_rfl
theorem ze21 : zeroO Try.prog 21 = some [.int .i32 0]:=by kernel_rfl
theorem ag21 : aggO Try.prog 21 = some false:=by kernel_rfl
theorem el21 : elO Try.prog 21 = none:=by kernel_rfl
theorem in21 : intO Try.prog 21 = some .i32:=by kernel_rfl
theorem st21 : strO Try.prog 21 = false:=by kernel_rfl
theorem u821 : u8O Try.prog 21 = false:=by kernel_rfl
theorem em21 : emptyO Try.prog 21 = some (.ints .i32 []):=by kernel_rfl
theorem sz22 : szO Try.prog 22 = some 1:=by kernel_rfl
theorem by22 : byO Try.prog 22 = some 24:=by kernel_rfl
theorem ze22 : zeroO Try.prog 22 = some [.slice none 0 0]:=by kernel_rfl
theorem ag22 : aggO Try.prog 22 = some false:=by kernel_rfl
theorem el22 : elO Try.prog 22 = some 4:=by kernel_rfl
theorem st22 : strO Try.prog 22 = false:=by kernel_rfl
theorem u822 : u8O Try.prog 22 = false:=by kernel_rfl
theorem em22 : emptyO Try.prog 22 = some (.sl 1 []):=by kernel_rfl
theorem sz23 : szO Try.prog 23 = some 1:=by kernel_rfl
theorem by23 : byO Try.prog 23 = some 24:=by kernel_rfl
theorem ze23 : zeroO Try.prog 23 = some [.slice none 0 0]:=by kernel_rfl
theorem ag23 : aggO Try.prog 23 = some false:=by kernel_rfl
theorem el23 : elO Try.prog 23 = some 3:=by kernel_rfl
theorem st23 : strO Try.prog 23 = false:=by kernel_rfl
theorem u823 : u8O Try.prog 23 = false:=by kernel_rfl
theorem em23 : emptyO Try.prog 23 = some (.sl 1 []):=by kernel_rfl
theorem sz24 : szO Try.prog 24 = some 6:=by kernel_rfl
theorem by24 : byO Try.prog 24 = some 80:=by kernel_rfl
theorem ze24 : zeroO Try.prog 24 = some [.slice none 0 0,.int .i64 0,.int .i64 0,.int .i64 0,.int .i64 0,.slice none 0 0]:=by kernel_rfl
theorem ag24 : aggO Try.prog 24 = some true:=by kernel_rfl
theorem el24 : elO Try.prog 24 = none:=by kernel_rfl
theorem st24 : strO Try.prog 24 = false:=by kernel_rfl
theorem u824 : u8O Try.prog 24 = false:=by kernel_rfl
theorem em24 : emptyO Try.prog 24 = some (.sl 6 []):=by kernel_rfl
theorem fd24_0 : fldO Try.prog 24 0 = some (0,23):=by kernel_rfl
theorem fd24_1 : fldO Try.prog 24 1 = some (1,3):=by kernel_rfl
theorem fd24_2 : fldO Try.prog 24 2 = some (2,3):=by kernel_rfl
theorem fd24_3 : fldO Try.prog 24 3 = some (3,3):=by kernel_rfl
theorem fd24_4 : fldO Try.prog 24 4 = some (4,3):=by kernel_rfl
theorem fd24_5 : fldO Try.prog 24 5 = some (5,23):=by kernel_rfl
theorem pl24 : plO Try.prog 24 = some [(0,1),(1,1),(2,1),(3,1),(4,1),(5,1)]:=by kernel_rfl
theorem sz25 : szO Try.prog 25 = some 6:=by kernel_rfl
theorem by25 : byO Try.prog 25 = some 80:=by kernel_rfl
theorem ze25 : zeroO Try.prog 25 = some [.slice none 0 0,.int .i64 0,.int .i64 0,.int .i64 0,.int .i64 0,.slice none 0 0]:=by kernel_rfl
theorem ag25 : aggO Try.prog 25 = some true:=by kernel_rfl
theorem el25 : elO Try.prog 25 = none:=by kernel_rfl
theorem st25 : strO Try.prog 25 = false:=by kernel_rfl
theorem u825 : u8O Try.prog 25 = false:=by kernel_rfl
theorem em25 : emptyO Try.prog 25 = some (.sl 6 []):=by kernel_rfl
theorem fd25_0 : fldO Try.prog 25 0 = some (0,23):=by kernel_rfl
theorem fd25_1 : fldO Try.prog 25 1 = some (1,3):=by kernel_rfl
theorem fd25_2 : fldO Try.prog 25 2 = some (2,3):=by kernel_rfl
theorem fd25_3 : fldO Try.prog 25 3 = some (3,3):=by kernel_rfl
theorem fd25_4 : fldO Try.prog 25 4 = some (4,3):=by kernel_rfl
theorem fd25_5 : fldO Try.prog 25 5 = some (5,23):=by kernel_rfl
theorem pl25 : plO Try.prog 25 = some [(0,1),(1,1),(2,1),(3,1),(4,1),(5,1)]:=by kernel_rfl
theorem sz26 : szO Try.prog 26 = some 2:=by kernel_rfl
theorem by26 : byO Try.prog 26 = some 16:=by kernel_rfl
theorem ze26 : zeroO Try.prog 26 = some [.int .i64 0,.int .i64 0]:=by kernel_rfl
theorem ag26 : aggO Try.prog 26 = some true:=by kernel_rfl
theorem el26 : elO Try.prog 26 = none:=by kernel_rfl
theorem st26 : strO Try.prog 26 = false:=by kernel_rfl
theorem u826 : u8O Try.prog 26 = false:=by kernel_rfl
theorem em26 : emptyO Try.prog 26 = some (.sl 2 []):=by kernel_rfl
theorem fd26_0 : fldO Try.prog 26 0 = some (0,3):=by kernel_rfl
theorem fd26_1 : fldO Try.prog 26 1 = some (1,3):=by kernel_rfl
theorem pl26 : plO Try.prog 26 = some [(0,1),(1,1)]:=by kernel_rfl
theorem sz27 : szO Try.prog 27 = some 2:=by kernel_rfl
theorem by27 : byO Try.prog 27 = some 16:=by kernel_rfl
theorem ze27 : zeroO Try.prog 27 = some [.int .i64 0,.int .i64 0]:=by kernel_rfl
theorem ag27 : aggO Try.prog 27 = some true:=by kernel_rfl
theorem el27 : elO Try.prog 27 = none:=by kernel_rfl
theorem st27 : strO Try.prog 27 = false:=by kernel_rfl
theorem u827 : u8O Try.prog 27 = false:=by kernel_rfl
theorem em27 : emptyO Try.prog 27 = some (.sl 2 []):=by kernel_rfl
theorem fd27_0 : fldO Try.prog 27 0 = some (0,3):=by kernel_rfl
theorem fd27_1 : fldO Try.prog 27 1 = some (1,3):=by kernel_rfl
theorem pl27 : plO Try.prog 27 = some [(0,1),(1,1)]:=by kernel_rfl
theorem sz34 : szO Try.prog 34 = some 1:=by kernel_rfl
theorem by34 : byO Try.prog 34 = some 8:=by kernel_rfl
theorem ze34 : zeroO Try.prog 34 = some [.pointer none]:=by kernel_rfl
theorem ag34 : aggO Try.prog 34 = some false:=by kernel_rfl
theorem el34 : elO Try.prog 34 = none:=by kernel_rfl
theorem st34 : strO Try.prog 34 = false:=by kernel_rfl
theorem u834 : u8O Try.prog 34 = false:=by kernel_rfl
theorem em34 : emptyO Try.prog 34 = some (.sl 1 []):=by kernel_rfl
theorem sz36 : szO Try.prog 36 = some 1:=by kernel_rfl
theorem by36 : byO Try.prog 36 = some 24:=by kernel_rfl
theorem ze36 : zeroO Try.prog 36 = some [.slice none 0 0]:=by kernel_rfl
theorem ag36 : aggO Try.prog 36 = some false:=by kernel_rfl
theorem el36 : elO Try.prog 36 = some 42:=by kernel_rfl
theorem st36 : strO Try.prog 36 = false:=by kernel_rfl
theorem u836 : u8O Try.prog 36 = false:=by kernel_rfl
theorem em36 : emptyO Try.prog 36 = some (.sl 1 []):=by kernel_rfl
theorem sz37 : szO Try.prog 37 = some 7:=by kernel_rfl
theorem by37 : byO Try.prog 37 = some 136:=by kernel_rfl
theorem ze37 : zeroO Try.prog 37 = some [.slice none 0 0,.slice none 0 0,.int .i64 0,.int .i64 0,.slice none 0 0,.slice none 0 0,.slice none 0 0]:=by kernel_rfl
theorem ag37 : aggO Try.prog 37 = some true:=by kernel_rfl
theorem el37 : elO Try.prog 37 = none:=by kernel_rfl
theorem st37 : strO Try.prog 37 = false:=by kernel_rfl
theorem u837 : u8O Try.prog 37 = false:=by kernel_rfl
theorem em37 : emptyO Try.prog 37 = some (.sl 7 []):=by kernel_rfl
theorem fd37_0 : fldO Try.prog 37 0 = some (0,23):=by kernel_rfl
theorem fd37_1 : fldO Try.prog 37 1 = some (1,36):=by kernel_rfl
theorem fd37_2 : fldO Try.prog 37 2 = some (2,3):=by kernel_rfl
theorem fd37_3 : fldO Try.prog 37 3 = some (3,3):=by kernel_rfl
theorem fd37_4 : fldO Try.prog 37 4 = some (4,23):=by kernel_rfl
theorem fd37_5 : fldO Try.prog 37 5 = some (5,23):=by kernel_rfl
theorem fd37_6 : fldO Try.prog 37 6 = some (6,23):=by kernel_rfl
theorem pl37 : plO Try.prog 37 = some [(0,1),(1,1),(2,1),(3,1),(4,1),(5,1),(6,1)]:=by kernel_rfl
theorem sz38 : szO Try.prog 38 = some 7:=by kernel_rfl
theorem by38 : byO Try.prog 38 = some 136:=by kernel_rfl
theorem ze38 : zeroO Try.prog 38 = some [.slice none 0 0,.slice none 0 0,.int .i64 0,.int .i64 0,.slice none 0 0,.slice none 0 0,.slice none 0 0]:=by kernel_rfl
theorem ag38 : aggO Try.prog 38 = some true:=by kernel_rfl
theorem el38 : elO Try.prog 38 = none:=by kernel_rfl
theorem st38 : strO Try.prog 38 = false:=by kernel_rfl
theorem u838 : u8O Try.prog 38 = false:=by kernel_rfl
theorem em38 : emptyO Try.prog 38 = some (.sl 7 []):=by kernel_rfl
theorem fd38_0 : fldO Try.prog 38 0 = some (0,23):=by kernel_rfl
theorem fd38_1 : fldO Try.prog 38 1 = some (1,36):=by kernel_rfl
theorem fd38_2 : fldO Try.prog 38 2 = some (2,3):=by kernel_rfl
theorem fd38_3 : fldO Try.prog 38 3 = some (3,3):=by kernel_rfl
theorem fd38_4 : fldO Try.prog 38 4 = some (4,23):=by kernel_rfl
theorem fd38_5 : fldO Try.prog 38 5 = some (5,23):=by kernel_rfl
theorem fd38_6 : fldO Try.prog 38 6 = some (6,23):=by kernel_rfl
theorem pl38 : plO Try.prog 38 = some [(0,1),(1,1),(2,1),(3,1),(4,1),(5,1),(6,1)]:=by kernel_rfl
theorem sz42 : szO Try.prog 42 = some 2:=by kernel_rfl
theorem by42 : byO Try.prog 42 = some 16:=by kernel_rfl
theorem ze42 : zeroO Try.prog 42 = some [.int .i64 0,.int .i64 0]:=by kernel_rfl
theorem ag42 : aggO Try.prog 42 = some true:=by kernel_rfl
theorem el42 : elO Try.prog 42 = none:=by kernel_rfl
theorem st42 : strO Try.prog 42 = false:=by kernel_rfl
theorem u842 : u8O Try.prog 42 = false:=by kernel_rfl
theorem em42 : emptyO Try.prog 42 = some (.sl 2 []):=by kernel_rfl
theorem pl42 : plO Try.prog 42 = some [(0,1),(1,1)]:=by kernel_rfl
theorem ar42 : arrO Try.prog 42 = some (2,3):=by kernel_rfl
theorem sz64 : szO Try.prog 64 = some 1:=by kernel_rfl
theorem by64 : byO Try.prog 64 = some 8:=by kernel_rfl
theorem ze64 : zeroO Try.prog 64 = some [.map none]:=by kernel_rfl
theorem ag64 : aggO Try.prog 64 = some false:=by kernel_rfl
theorem el64 : elO Try.prog 64 = none:=by kernel_rfl
theorem mo64 : mapO Try.prog 64 = some (3,4):=by kernel_rfl
theorem zv4 : zvO Try.prog 4 = some (.bool false):=by kernel_rfl
theorem st64 : strO Try.prog 64 = false:=by kernel_rfl
theorem u864 : u8O Try.prog 64 = false:=by kernel_rfl
theorem em64 : emptyO Try.prog 64 = some (.sl 1 []):=by kernel_rfl
theorem sz67 : szO Try.prog 67 = some 1:=by kernel_rfl
theorem by67 : byO Try.prog 67 = some 24:=by kernel_rfl
theorem ze67 : zeroO Try.prog 67 = some [.slice none 0 0]:=by kernel_rfl
theorem ag67 : aggO Try.prog 67 = some false:=by kernel_rfl
theorem el67 : elO Try.prog 67 = some 23:=by kernel_rfl
theorem st67 : strO Try.prog 67 = false:=by kernel_rfl
theorem u867 : u8O Try.prog 67 = false:=by kernel_rfl
theorem em67 : emptyO Try.prog 67 = some (.sl 1 []):=by kernel_rfl
theorem sz76 : szO Try.prog 76 = some 1:=by kernel_rfl
theorem by76 : byO Try.prog 76 = some 4:=by kernel_rfl
theorem ze76 : zeroO Try.prog 76 = some [.int .u32 0]:=by kernel_rfl
theorem ag76 : aggO Try.prog 76 = some false:=by kernel_rfl
theorem el76 : elO Try.prog 76 = none:=by kernel_rfl
theorem in76 : intO Try.prog 76 = some .u32:=by kernel_rfl
theorem st76 : strO Try.prog 76 = false:=by kernel_rfl
theorem u876 : u8O Try.prog 76 = false:=by kernel_rfl
theorem em76 : emptyO Try.prog 76 = some (.ints .u32 []):=by kernel_rfl
theorem sz80 : szO Try.prog 80 = some 1:=by kernel_rfl
theorem by80 : byO Try.prog 80 = some 8:=by kernel_rfl
theorem ze80 : zeroO Try.prog 80 = some [.pointer none]:=by kernel_rfl
theorem ag80 : aggO Try.prog 80 = some false:=by kernel_rfl
theorem el80 : elO Try.prog 80 = none:=by kernel_rfl
theorem st80 : strO Try.prog 80 = false:=by kernel_rfl
theorem u880 : u8O Try.prog 80 = false:=by kernel_rfl
theorem em80 : emptyO Try.prog 80 = some (.sl 1 []):=by kernel_rfl
attribute [go_sem] sz2 by2 ze2 ag2 el2 in2 st2 u82 em2 Try.underlying2 sz3 by3 ze3 ag3 el3 in3 st3 u83 em3 Try.underlying3 sz4 by4 ze4 ag4 el4 st4 u84 em4 Try.underlying4 sz5 by5 ze5 ag5 el5 in5 st5 u85 em5 Try.underlying5 sz9 by9 ze9 ag9 el9 st9 u89 em9 Try.underlying9 sz12 by12 ze12 ag12 el12 in12 st12 u812 em12 Try.underlying12 sz13 by13 ze13 ag13 el13 st13 u813 em13 fd13_0 fd13_1 pl13 Try.underlying13 sz21 by21 ze21 ag21 el21 in21 st21 u821 em21 Try.underlying21 sz22 by22 ze22 ag22 el22 st22 u822 em22 Try.underlying22 sz23 by23 ze23 ag23 el23 st23 u823 em23 Try.underlying23 sz24 by24 ze24 ag24 el24 st24 u824 em24 fd24_0 fd24_1 fd24_2 fd24_3 fd24_4 fd24_5 pl24 Try.underlying24 sz25 by25 ze25 ag25 el25 st25 u825 em25 fd25_0 fd25_1 fd25_2 fd25_3 fd25_4 fd25_5 pl25 Try.underlying25 sz26 by26 ze26 ag26 el26 st26 u826 em26 fd26_0 fd26_1 pl26 Try.underlying26 sz27 by27 ze27 ag27 el27 st27 u827 em27 fd27_0 fd27_1 pl27 Try.underlying27 sz34 by34 ze34 ag34 el34 st34 u834 em34 Try.underlying34 sz36 by36 ze36 ag36 el36 st36 u836 em36 Try.underlying36 sz37 by37 ze37 ag37 el37 st37 u837 em37 fd37_0 fd37_1 fd37_2 fd37_3 fd37_4 fd37_5 fd37_6 pl37 Try.underlying37 sz38 by38 ze38 ag38 el38 st38 u838 em38 fd38_0 fd38_1 fd38_2 fd38_3 fd38_4 fd38_5 fd38_6 pl38 Try.underlying38 sz42 by42 ze42 ag42 el42 st42 u842 em42 pl42 ar42 Try.underlying42 sz64 by64 ze64 ag64 el64 mo64 zv4 st64 u864 em64 Try.underlying64 sz67 by67 ze67 ag67 el67 st67 u867 em67 Try.underlying67 sz76 by76 ze76 ag76 el76 in76 st76 u876 em76 Try.underlying76 sz80 by80 ze80 ag80 el80 st80 u880 em80 Try.underlying80
end Go.Proofs.Ytmcjojbffidlbaa

namespace Go.Proofs.NatL
set_option linter.unusedSimpArgs false
set_option linter.unusedVariables false

def V (B : Nat) : List Int → Nat
 | []=>0
 | x :: xs=>x.toNat + B * V B xs

def dgF (B : Nat) : Nat → Nat → List Int
 | 0,_=>[]
 | f + 1,n=>if n = 0 then [] else ((n % B : Nat) : Int) :: dgF B f (n / B)
def dg (B n : Nat) : List Int:=dgF B n n

end Go.Proofs.NatL

namespace Go.Proofs.NatL
set_option linter.unusedSimpArgs false
set_option linter.unusedVariables false

theorem getD_eq (xs : List Int) (i : Nat) (h : i < xs.length) : xs.getD i 0 = xs[i]:=by simp [List.getD_eq_getElem?_getD,List.getElem?_eq_getElem h]

end Go.Proofs.NatL

namespace Go.Proofs.NatL
set_option linter.unusedSimpArgs false
set_option linter.unusedVariables false
open Go.Abs

end Go.Proofs.NatL

namespace Go.Proofs.NatL
set_option linter.unusedSimpArgs false
set_option linter.unusedVariables false
open Go.Abs

end Go.Proofs.NatL

namespace Go.Proofs.NatL
set_option linter.unusedSimpArgs false
set_option linter.unusedVariables false

structure Est (B : Nat) (Vu Vv U3 V2 u2 head v1 v2 : Nat) : Prop where
 ex : ∃ P ul vl,0 < P ∧ Vu = ul + P * U3 ∧ ul < P ∧ Vv = vl + P * V2 ∧ vl < P
 u : U3 = u2 + B * head
 v : V2 = v2 + B * v1
 ku2 : u2 < B
 kv2 : v2 < B
 kv1 : 0 < v1
 lt : Vu < B * Vv
 hd : head < v1 * B + B

theorem Est.q_le {B Vu Vv U3 V2 u2 head v1 v2 : Nat} (h : Est B Vu Vv U3 V2 u2 head v1 v2) : Vu / Vv * V2 ≤ U3:=by
 obtain ⟨P,ul,vl,hP,hu,hul,hv,hvl⟩:=h.ex
 have h1 : Vu / Vv * Vv ≤ Vu:=Nat.div_mul_le_self _ _
 have h2 : Vu / Vv * (P * V2) ≤ Vu / Vv * Vv:=Nat.mul_le_mul_left _ (by omega)
 have h3 : P * (Vu / Vv * V2) < P * (U3 + 1):=by
  rw [Nat.mul_left_comm,Nat.mul_add]; omega
 have:=Nat.lt_of_mul_lt_mul_left h3
 omega
theorem Est.start {B Vu Vv U3 V2 u2 head v1 v2 : Nat} (h : Est B Vu Vv U3 V2 u2 head v1 v2) (hB : 0 < B) : Vu / Vv ≤ head / v1:=by
 rw [Nat.le_div_iff_mul_le h.kv1]
 have h1:=h.q_le
 rw [h.u,h.v,Nat.mul_add,Nat.mul_left_comm] at h1
 have h2 : B * (Vu / Vv * v1) < B * (head + 1):=by rw [Nat.mul_add]; have:=h.ku2; omega
 have:=Nat.lt_of_mul_lt_mul_left h2
 omega
end Go.Proofs.NatL

namespace Go.Proofs.NatL
set_option linter.unusedSimpArgs false
set_option linter.unusedVariables false

end Go.Proofs.NatL

namespace Go.Proofs.NatL
set_option linter.unusedSimpArgs false
set_option linter.unusedVariables false

end Go.Proofs.NatL

namespace Go.Proofs.NatL
set_option linter.unusedSimpArgs false
set_option linter.unusedVariables false

end Go.Proofs.NatL

namespace Go.Proofs.NatL
set_option linter.unusedSimpArgs false
set_option linter.unusedVariables false

def bI (l : List Bool) : List Int:=l.map fun b=>if b then 1 else 0
def bB (xs : List Int) : List Bool:=xs.map fun x=>x == 1
def B2 (l : List Bool) : Nat:=V 2 (bI l)
def bs (n : Nat) : List Bool:=bB (dg 2 n)
end Go.Proofs.NatL

namespace Go.Proofs.NatL
set_option linter.unusedSimpArgs false
set_option linter.unusedVariables false

end Go.Proofs.NatL

namespace Go.Proofs.NatL
set_option linter.unusedSimpArgs false
set_option linter.unusedVariables false

end Go.Proofs.NatL

namespace Go.Abs
set_option linter.unusedSimpArgs false
set_option linter.unusedVariables false
variable {P : Program}
end Go.Abs
namespace Go.Proofs.Ytmcjojbffidlbaa
set_option linter.unusedSimpArgs false
set_option linter.unusedVariables false
open Go.Abs Go.Proofs.NatL Go.ChangeShapes Go.WideShapes Go.ChangeAt Go.RowKit

theorem own_knob : ownKnob Try.prog.godebug = none:=by kernel_rfl
theorem kids : Kids Try.prog (· < Try.prog.types.size):=kids_rows (by kernel_rfl) (by kernel_rfl)
theorem full : ∀ t e,t < Try.prog.types.size → Try.prog.underlying t = some (.slice e) → 0 < Try.prog.cellsOf e:=slices_full_of Try.prog (by kernel_rfl)
theorem cells_int : Try.prog.cellsOf 3 = 1:=by kernel_rfl
theorem bytes_int : Try.prog.bytesOf 3 = 8:=by kernel_rfl
theorem flt : FltOk Try.prog 27:=flt_of (e:=3) ⟨⟨_,_,Try.underlying27,rfl,rfl,rfl,rfl,rfl,rfl⟩,Try.underlying3,by kernel_rfl,by kernel_rfl⟩
def cf0 : Cfg:=⟨fun _=>none,[27],false⟩
theorem cf0_ok : TblOk Try.prog cf0:=⟨by simp only [cf0,List.mem_singleton,forall_eq]; exact flt,by simp [cf0]⟩
attribute [go_sem] cf0 addT mkCT mkCTO norm nz nzL List.mem_singleton List.mem_cons true_or or_true
theorem at_ret (c i : Int) : Ret Try.prog 30 false [.inl (.i .i64 c),.inl (.i .i64 i)] (.g [.i .i64 c,.i .i64 i]):=by
 (refine q_H Try.func30 (fun F=>?_); simp only [q_z,q_y,Try.ntmps30,Try.results30])
 repeat' (first|with_reducible refine q_0 ?_|((with_reducible first|refine q_q cf0_ok fun K hK=>?_|refine q_r cf0_ok fun K hK=>?_);simp (maxSteps:=2000000) only [go_sem,↓reduceIte,reduceCtorEq,Nat.reduceLeDiff,Nat.reduceLT,Nat.reduceBEq,Nat.reduceAdd];(repeat1' with_reducible first|apply And.intro|intro _|(refine hK _ ?_;clear hK K))<;>(try (clear hK K;exact q_u)))|(with_reducible refine q_s ?_;(first|apply q_J|apply q_K|apply q_L|apply q_M|apply q_N|apply q_O)<;>try intro _))
 exact q_A rfl
theorem At_ret (c i : Int) : Ret Try.prog 11 false [.inl (.i .i64 c),.inl (.i .i64 i)] (.g [.i .i64 c,.i .i64 i]):=by
 (refine q_H Try.func11 (fun F=>?_); simp only [q_z,q_y,Try.ntmps11,Try.results11])
 repeat' (first|with_reducible refine q_0 ?_|((with_reducible first|refine q_q cf0_ok fun K hK=>?_|refine q_r cf0_ok fun K hK=>?_);simp (maxSteps:=2000000) only [go_sem,↓reduceIte,reduceCtorEq,Nat.reduceLeDiff,Nat.reduceLT,Nat.reduceBEq,Nat.reduceAdd];(repeat1' with_reducible first|apply And.intro|intro _|(refine hK _ ?_;clear hK K))<;>(try (clear hK K;exact q_u)))|(with_reducible refine q_s ?_;(first|apply q_J|apply q_K|apply q_L|apply q_M|apply q_N|apply q_O)<;>try intro _))
 exact q_A rfl
def atCT : CT:=mkCT [] true fun l K=>match l with
 | [.inl (.i .i64 c),.inl (.i .i64 i)]=>K (.g [.i .i64 c,.i .i64 i])
 | _=>False
def oa1 : Cfg:=addT 30 atCT cf0
theorem oa1_ok : TblOk Try.prog oa1:=q_I cf0_ok Try.func30 fun l K h=>by
 split at h
 ·exact ⟨_,(at_ret _ _).plain rfl,h⟩
 ·exact h.elim
def oa2 : Cfg:=addT 11 atCT cf0
theorem oa2_ok : TblOk Try.prog oa2:=q_I cf0_ok Try.func11 fun l K h=>by
 split at h
 ·exact ⟨_,(At_ret _ _).plain rfl,h⟩
 ·exact h.elim
attribute [go_sem] oa1 oa2 atCT listT decide_true decide_false
end Go.Proofs.Ytmcjojbffidlbaa

namespace Go.Proofs.Ytmcjojbffidlbaa
set_option linter.unusedSimpArgs false
set_option linter.unusedVariables false

structure Pn where
 o : List Int
 w : Nat
 f : Nat
 l : Nat
 r : Nat
 m : List Int
def Pn.mid (p : Pn) : Nat:=min p.o.length (p.f + p.w)
def Pn.en (p : Pn) : Nat:=min p.o.length (p.f + 2 * p.w)
def Pn.on (p : Pn) : Prop:=p.w < p.o.length
def Pn.asks (p : Pn) : Prop:=p.f + p.l < p.mid ∧ p.mid + p.r < p.en
instance (p : Pn) : Decidable p.on:=inferInstanceAs (Decidable (p.w < p.o.length))
instance (p : Pn) : Decidable p.asks:=inferInstanceAs (Decidable (p.f + p.l < p.mid ∧ p.mid + p.r < p.en))
def Pn.mrg (p : Pn) : List Int:=p.m ++ ((p.o.take p.mid).drop (p.f + p.l) ++ (p.o.take p.en).drop (p.mid + p.r))
def Pn.put (p : Pn) : List Int:=p.o.take p.f ++ p.mrg ++ p.o.drop p.en
def Pn.step (p : Pn) : Pn:=if p.o.length ≤ p.en then ⟨p.put,2 * p.w,0,0,0,[]⟩ else ⟨p.put,p.w,p.en,0,0,[]⟩
structure Pn.Ok (p : Pn) : Prop where
 n : p.o.length ≤ 1000
 w0 : 1 ≤ p.w
 w1 : p.w ≤ 2000
 lm : p.f + p.l ≤ p.mid ∨ ¬ p.on
 rm : p.mid + p.r ≤ p.en ∨ ¬ p.on
 mm : p.m.length = p.l + p.r
 fo : p.f < p.o.length ∨ ¬ p.on
 f1 : p.f ≤ 1000
 l1 : p.l ≤ 1000
 r1 : p.r ≤ 1000
def Pn.mu (p : Pn) : Nat:=(2 * p.o.length - p.w) * (p.o.length + 1) + (p.o.length - p.f)
theorem Pn.facts {p : Pn} (h : p.Ok) (ho : p.on) : p.f < p.mid ∧ p.mid ≤ p.en ∧ p.en ≤ p.o.length ∧ p.f < p.en ∧ p.f + p.l ≤ p.mid ∧ p.mid + p.r ≤ p.en:=by
 have h1:=h.w0
 have hn : ¬ ¬ p.on:=fun k=>k ho
 have h2:=h.fo.resolve_right hn
 have h3:=h.lm.resolve_right hn
 have h4:=h.rm.resolve_right hn
 unfold Pn.mid Pn.en at *
 omega
theorem Pn.mrg_len {p : Pn} (h : p.Ok) (ho : p.on) : p.mrg.length = p.en - p.f:=by
 obtain ⟨h1,h2,h3,h4,h5,h6⟩:=Pn.facts h ho
 have:=h.mm
 simp only [Pn.mrg,List.length_append,List.length_drop,List.length_take]
 omega
theorem Pn.put_len {p : Pn} (h : p.Ok) (ho : p.on) : p.put.length = p.o.length:=by
 obtain ⟨h1,h2,h3,h4,h5,h6⟩:=Pn.facts h ho
 have:=Pn.mrg_len h ho
 simp only [Pn.put,List.length_append,List.length_drop,List.length_take,this]
 omega
theorem Pn.step_ok {p : Pn} (h : p.Ok) (ho : p.on) : p.step.Ok:=by
 obtain ⟨h1,h2,h3,h4,h5,h6⟩:=Pn.facts h ho
 have hl:=Pn.put_len h ho
 have hn:=h.n
 have hw:=h.w0
 have ho2 : p.w < p.o.length:=ho
 unfold Pn.step
 split
 ·refine ⟨?_,?_,?_,?_,?_,rfl,?_,?_,?_,?_⟩ <;> simp only [Pn.mid,Pn.en,Pn.on,hl] <;> omega
 ·refine ⟨?_,?_,?_,?_,?_,rfl,?_,?_,?_,?_⟩ <;> simp only [Pn.mid,Pn.on,hl] <;> first | omega | (simp only [Pn.en] at *; omega)
theorem Pn.step_mu {p : Pn} (h : p.Ok) (ho : p.on) : p.step.mu < p.mu:=by
 obtain ⟨h1,h2,h3,h4,h5,h6⟩:=Pn.facts h ho
 have hl:=Pn.put_len h ho
 have hw:=h.w0
 have ho2 : p.w < p.o.length:=ho
 unfold Pn.step Pn.mu
 split
 ·simp only [hl]
  obtain ⟨d,hd⟩ : ∃ d,2 * p.o.length - p.w = d:=⟨_,rfl⟩
  obtain ⟨e,he⟩ : ∃ e,2 * p.o.length - 2 * p.w = e:=⟨_,rfl⟩
  have hde : e + 1 ≤ d:=by omega
  have:=Nat.mul_le_mul_right (p.o.length + 1) hde
  rw [Nat.add_mul] at this
  rw [hd,he]
  omega
 ·simp only [hl]
  omega
def settleF : Nat → Pn → Pn
 | 0,p=>p
 | k + 1,p=>if p.on ∧ ¬ p.asks then settleF k p.step else p
def settle (p : Pn) : Pn:=settleF p.mu p
theorem settleF_more : ∀ (k j : Nat) (p : Pn),p.Ok → p.mu ≤ k → p.mu ≤ j → settleF k p = settleF j p
 | 0,j,p,h,h1,h2=>by
  by_cases ho : p.on
  ·have:=Pn.step_mu h ho; omega
  ·cases j with
   | zero=>rfl
   | succ j=>simp [settleF,ho]
 | k + 1,0,p,h,h1,h2=>by
  by_cases ho : p.on
  ·have:=Pn.step_mu h ho; omega
  ·simp [settleF,ho]
 | k + 1,j + 1,p,h,h1,h2=>by
  simp only [settleF]
  split
  ·rename_i hc
   have:=Pn.step_mu h hc.1
   exact settleF_more k j _ (Pn.step_ok h hc.1) (by omega) (by omega)
  ·rfl
theorem settle_step {p : Pn} (h : p.Ok) (ho : p.on) (ha : ¬ p.asks) : settle p.step = settle p:=by
 have hm:=Pn.step_mu h ho
 unfold settle
 obtain ⟨k,hk⟩ : ∃ k,p.mu = k + 1:=⟨p.mu - 1,by omega⟩
 rw [hk]
 simp only [settleF]
 rw [if_pos ⟨ho,ha⟩]
 exact settleF_more _ _ _ (Pn.step_ok h ho) (Nat.le_refl _) (by omega)
theorem settle_done {p : Pn} (hc : ¬ (p.on ∧ ¬ p.asks)) : settle p = p:=by
 unfold settle
 cases p.mu with
 | zero=>rfl
 | succ k=>simp only [settleF]; rw [if_neg hc]
theorem settleF_facts : ∀ (k : Nat) (p : Pn),p.Ok → p.mu ≤ k → (settleF k p).Ok ∧ ((settleF k p).on → (settleF k p).asks) ∧ (settleF k p).o.length = p.o.length
 | 0,p,h,h1=>by
  by_cases ho : p.on
  ·have:=Pn.step_mu h ho; omega
  ·exact ⟨h,fun h=>absurd h ho,rfl⟩
 | k + 1,p,h,h1=>by
  simp only [settleF]
  split
  ·rename_i hc
   have:=Pn.step_mu h hc.1
   obtain ⟨g1,g2,g3⟩:=settleF_facts k p.step (Pn.step_ok h hc.1) (by omega)
   refine ⟨g1,g2,?_⟩
   rw [g3]
   have hl:=Pn.put_len h hc.1
   unfold Pn.step
   split <;> exact hl
  ·rename_i hc
   exact ⟨h,fun ho=>Classical.byContradiction fun ha=>hc ⟨ho,ha⟩,rfl⟩
theorem settle_facts {p : Pn} (h : p.Ok) : (settle p).Ok ∧ ((settle p).on → (settle p).asks) ∧ (settle p).o.length = p.o.length:=settleF_facts _ p h (Nat.le_refl _)
def startP (n : Nat) : Pn:=⟨(List.range n).map fun i : Nat=>(i : Int),1,0,0,0,[]⟩
theorem startP_ok {n : Nat} (h : n ≤ 1000) : (startP n).Ok:=by
 refine ⟨by simp [startP]; exact h,by simp [startP],by simp [startP],?_,?_,rfl,?_,by simp [startP],by simp [startP],by simp [startP]⟩ <;> simp only [startP,Pn.mid,Pn.en,Pn.on,List.length_map,List.length_range] <;> omega
def Pn.i (p : Pn) : Int:=p.o.getD (p.mid + p.r) 0
def Pn.j (p : Pn) : Int:=p.o.getD (p.f + p.l) 0
def Pn.told (p : Pn) (b : Bool) : Pn:=if b then ⟨p.o,p.w,p.f,p.l,p.r + 1,p.m ++ [p.i]⟩ else ⟨p.o,p.w,p.f,p.l + 1,p.r,p.m ++ [p.j]⟩
theorem told_ok {p : Pn} (h : p.Ok) (ho : p.on) (ha : p.asks) (b : Bool) : (p.told b).Ok:=by
 obtain ⟨h1,h2,h3,h4,h5,h6⟩:=Pn.facts h ho
 obtain ⟨h7,h8⟩:=ha
 have hm:=h.mm
 have hn:=h.n
 have hw:=h.w1
 have hw0:=h.w0
 have hf:=h.fo
 have hf1:=h.f1
 unfold Pn.told
 cases b
 ·rw [if_neg (by simp)]
  refine ⟨h.n,h.w0,h.w1,?_,?_,?_,h.fo,h.f1,?_,?_⟩ <;> simp only [Pn.mid,Pn.en,Pn.on,List.length_append,List.length_cons,List.length_nil] at * <;> omega
 ·rw [if_pos rfl]
  refine ⟨h.n,h.w0,h.w1,?_,?_,?_,h.fo,h.f1,?_,?_⟩ <;> simp only [Pn.mid,Pn.en,Pn.on,List.length_append,List.length_cons,List.length_nil] at * <;> omega
def tellP (p : Pn) (b : Bool) : Pn:=if p.on then settle (p.told b) else p
theorem tellP_ok {p : Pn} (h : p.Ok) (ha : p.on → p.asks) (b : Bool) : (tellP p b).Ok ∧ ((tellP p b).on → (tellP p b).asks) ∧ (tellP p b).o.length = p.o.length:=by
 unfold tellP
 split
 ·rename_i ho
  obtain ⟨g1,g2,g3⟩:=settle_facts (told_ok h ho (ha ho) b)
  refine ⟨g1,g2,g3.trans ?_⟩
  unfold Pn.told; split <;> rfl
 ·exact ⟨h,ha,rfl⟩
end Go.Proofs.Ytmcjojbffidlbaa

namespace Go.Proofs.Ytmcjojbffidlbaa
set_option linter.unusedSimpArgs false
set_option linter.unusedVariables false
open Go.Abs Go.Proofs.NatL

set_option maxHeartbeats 1600000 in
theorem grow_ret (n : Int) (h0 : 0 ≤ n) (h1 : n ≤ 16777216) : RetO Try.prog 40 [.inl .nil,.inl (.i .i64 n)] 3 1 (.ints .i64 []):=by
 by_cases hz : n = 0
 ·subst hz
  (refine q_x Try.func40 rfl (Nat.le_of_ble_eq_true rfl) (fun F=>?_); simp only [q_z,q_y,Try.ntmps40,Try.results40])
  repeat' (first|with_reducible refine q_0 ?_|((with_reducible first|refine q_q cf0_ok fun K hK=>?_|refine q_r cf0_ok fun K hK=>?_);simp (maxSteps:=2000000) only [go_sem,↓reduceIte,reduceCtorEq,Nat.reduceLeDiff,Nat.reduceLT,Nat.reduceBEq,Nat.reduceAdd];(repeat1' with_reducible first|apply And.intro|(intro _;try exact q_v)|(refine hK _ ?_;clear hK K))<;>(try (clear hK K;exact q_u)))|(with_reducible refine q_s ?_;(first|apply q_J|apply q_K|apply q_L|apply q_M|apply q_N|apply q_O)<;>try (intro _;try exact q_v)))
  exact endsO_nil rfl rfl rfl (by omega) rfl
 ·(refine q_x Try.func40 rfl (Nat.le_of_ble_eq_true rfl) (fun F=>?_); simp only [q_z,q_y,Try.ntmps40,Try.results40])
  repeat' (first|with_reducible refine q_0 ?_|((with_reducible first|refine q_q cf0_ok fun K hK=>?_|refine q_r cf0_ok fun K hK=>?_);simp (maxSteps:=2000000) only [go_sem,↓reduceIte,reduceCtorEq,Nat.reduceLeDiff,Nat.reduceLT,Nat.reduceBEq,Nat.reduceAdd];(repeat1' with_reducible first|apply And.intro|(intro _;try exact q_v)|(refine hK _ ?_;clear hK K))<;>(try (clear hK K;exact q_u)))|(with_reducible refine q_s ?_;(first|apply q_J|apply q_K|apply q_L|apply q_M|apply q_N|apply q_O)<;>try (intro _;try exact q_v)))
  all_goals first | omega | exact endsO_own rfl rfl rfl rfl rfl rfl rfl
def growCT : CT:=mkCTO [] 3 1 fun l K=>match l with
 | [.inl .nil,.inl (.i .i64 n)]=>(0 ≤ n ∧ n ≤ 16777216) ∧ K (.c (.ints .i64 []))
 | _=>False
def so1 : Cfg:=addT 40 growCT cf0
theorem so1_ok : TblOk Try.prog so1:=mkCTO_ok cf0_ok (q_C Try.func40 (by kernel_rfl) (by kernel_rfl)) rfl fun l K h=>by
 split at h
 ·exact ⟨_,grow_ret _ h.1.1 h.1.2,h.2⟩
 ·exact h.elim
attribute [go_sem] growCT
def sob : Cfg:=listT [(40,growCT)] [27]
theorem sob_ok : TblOk Try.prog sob:=listE_ok (by simp only [List.mem_singleton,forall_eq]; exact flt) ⟨⟨so1,so1_ok,rfl⟩,trivial⟩
attribute [go_sem] sob
def rowL (xs : List Int) : List C:=[.ints .i64 xs]
def unL : List (List C) → Option (List (List Int))
 | []=>some []
 | [.ints .i64 xs] :: r=>(unL r).map (xs :: ·)
 | _ :: _=>none
theorem unL_some : ∀ {rows : List (List C)} {l : List (List Int)},unL rows = some l → rows = l.map rowL
 | [],l,h=>by simp [unL] at h; subst h; rfl
 | r :: rows,l,h=>by
  unfold unL at h
  split at h
  ·rename_i heq; cases heq
  ·rename_i xs r' heq
   cases heq
   obtain ⟨l',h1,rfl⟩:=Option.map_eq_some_iff.1 h
   rw [unL_some h1]; rfl
  ·cases h
theorem rowL_get (l : List (List Int)) (i : Nat) (h : i < l.length) : (l.map rowL).getD i [] = [.ints .i64 (l.getD i [])]:=by
 simp [List.getD_eq_getElem?_getD,List.getElem?_eq_getElem h,rowL]
theorem flat_take (l : List (List Int)) (i : Nat) (h : i < l.length) : (l.take (i + 1)).flatten = (l.take i).flatten ++ l.getD i []:=by
 rw [List.take_succ_eq_append_getElem h,List.flatten_append]
 simp [List.getD_eq_getElem?_getD,List.getElem?_eq_getElem h]
theorem flat_le (l : List (List Int)) (i : Nat) : (l.take i).flatten.length ≤ l.flatten.length:=by
 conv=>rhs; rw [← List.take_append_drop i l]
 rw [List.flatten_append,List.length_append]
 omega
set_option maxRecDepth 100000 in
set_option maxHeartbeats 3200000 in
theorem concat_ret (l : List (List Int)) (hn : l.length ≤ 1000) (hl : l.flatten.length ≤ 4194304) : RetO Try.prog 38 [.inl (.sl 1 (l.map rowL))] 3 1 (.ints .i64 l.flatten):=by
 (refine q_x Try.func38 rfl (Nat.le_of_ble_eq_true rfl) (fun F=>?_); simp only [q_z,q_y,Try.ntmps38,Try.results38])
 repeat' (first|with_reducible refine q_0 ?_|((with_reducible first|refine q_q sob_ok fun K hK=>?_|refine q_r sob_ok fun K hK=>?_);simp (maxSteps:=2000000) only [go_sem,↓reduceIte,reduceCtorEq,Nat.reduceLeDiff,Nat.reduceLT,Nat.reduceBEq,Nat.reduceAdd,List.length_map];(repeat1' with_reducible first|apply And.intro|(intro _;try exact q_v)|(refine hK _ ?_;clear hK K))<;>(try (clear hK K;exact q_u)))|(with_reducible refine q_s ?_;(first|apply q_J|apply q_K|apply q_L|apply q_M|apply q_N|apply q_O)<;>try (intro _;try exact q_v)))
 refine q_G (ι:={ i : Nat // i ≤ l.length }) (fun i=>⟨36,[(0,.c (.sl 1 (l.map rowL))),(3,.c (.i .i64 ((l.take i.1).flatten.length : Nat))),(9,.c (.sl 1 (l.map rowL))),(10,.c (.i .i64 l.length)),(11,.c (.i .i64 (i.1 : Nat)))],⟨[],[],[]⟩,0⟩) (fun i=>l.length - i.1) ⟨0,by omega⟩ ?_ ?_
 ·exact q_D
 rintro ⟨i,g1⟩
 simp only at g1 ⊢
 have fl:=flat_le l i
 rcases Nat.lt_or_ge i l.length with hi | hi
 ·have ht:=flat_take l i hi
  have fl2:=flat_le l (i + 1)
  have hr:=rowL_get l i hi
  have hlen:=congrArg List.length ht
  rw [List.length_append] at hlen
  repeat' (first|with_reducible refine q_0 ?_|((with_reducible first|refine q_q sob_ok fun K hK=>?_|refine q_r sob_ok fun K hK=>?_);simp (maxSteps:=2000000) only [go_sem,↓reduceIte,reduceCtorEq,Nat.reduceLeDiff,Nat.reduceLT,Nat.reduceBEq,Nat.reduceAdd,hr,List.length_map];(repeat1' with_reducible first|apply And.intro|(intro _;try exact q_v)|(refine hK _ ?_;clear hK K))<;>(try (clear hK K;exact q_u)))|(with_reducible refine q_s ?_;(first|apply q_J|apply q_K|apply q_L|apply q_M|apply q_N|apply q_O)<;>try (intro _;try exact q_v)))
  all_goals try omega
  refine q_F ⟨i + 1,hi⟩ ?_ (by simp only; omega)
  simp only [hlen,Int.natCast_add]
  exact q_D
 ·have hi' : i = l.length:=by omega
  subst hi'
  repeat' (first|with_reducible refine q_0 ?_|((with_reducible first|refine q_q sob_ok fun K hK=>?_|refine q_r sob_ok fun K hK=>?_);simp (maxSteps:=2000000) only [go_sem,↓reduceIte,reduceCtorEq,Nat.reduceLeDiff,Nat.reduceLT,Nat.reduceBEq,Nat.reduceAdd,List.take_length,List.length_map];(repeat1' with_reducible first|apply And.intro|(intro _;try exact q_v)|(refine hK _ ?_;clear hK K))<;>(try (clear hK K;exact q_u)))|(with_reducible refine q_s ?_;(first|apply q_J|apply q_K|apply q_L|apply q_M|apply q_N|apply q_O)<;>try (intro _;try exact q_v)))
  all_goals try omega
  refine q_G (ι:={ i : Nat // i ≤ l.length }) (fun i=>⟨36,[(6,.own 0 0),(25,.c (.sl 1 (l.map rowL))),(26,.c (.i .i64 l.length)),(27,.c (.i .i64 (i.1 : Nat)))],⟨[],[(0,⟨0,3,1,.ints .i64 (l.take i.1).flatten⟩)],[]⟩,1⟩) (fun i=>l.length - i.1) ⟨0,by omega⟩ ?_ ?_
  ·exact q_D
  rintro ⟨i,g1⟩
  simp only at g1 ⊢
  have fl:=flat_le l i
  rcases Nat.lt_or_ge i l.length with hi | hi
  ·have ht:=flat_take l i hi
   have fl2:=flat_le l (i + 1)
   have hr:=rowL_get l i hi
   have hlen:=congrArg List.length ht
   rw [List.length_append] at hlen
   repeat' (first|with_reducible refine q_0 ?_|((with_reducible first|refine q_q sob_ok fun K hK=>?_|refine q_r sob_ok fun K hK=>?_);simp (maxSteps:=2000000) only [go_sem,↓reduceIte,reduceCtorEq,Nat.reduceLeDiff,Nat.reduceLT,Nat.reduceBEq,Nat.reduceAdd,hr,List.length_map];(repeat1' with_reducible first|apply And.intro|(intro _;try exact q_v)|(refine hK _ ?_;clear hK K))<;>(try (clear hK K;exact q_u)))|(with_reducible refine q_s ?_;(first|apply q_J|apply q_K|apply q_L|apply q_M|apply q_N|apply q_O)<;>try (intro _;try exact q_v)))
   all_goals try omega
   refine q_F ⟨i + 1,hi⟩ ?_ (by simp only; omega)
   simp only [ht]
   exact q_D
  ·have hi' : i = l.length:=by omega
   subst hi'
   repeat' (first|with_reducible refine q_0 ?_|((with_reducible first|refine q_q sob_ok fun K hK=>?_|refine q_r sob_ok fun K hK=>?_);simp (maxSteps:=2000000) only [go_sem,↓reduceIte,reduceCtorEq,Nat.reduceLeDiff,Nat.reduceLT,Nat.reduceBEq,Nat.reduceAdd,List.take_length,List.length_map];(repeat1' with_reducible first|apply And.intro|(intro _;try exact q_v)|(refine hK _ ?_;clear hK K))<;>(try (clear hK K;exact q_u)))|(with_reducible refine q_s ?_;(first|apply q_J|apply q_K|apply q_L|apply q_M|apply q_N|apply q_O)<;>try (intro _;try exact q_v)))
   all_goals first | omega | exact endsO_own rfl rfl rfl rfl rfl rfl rfl
def concatCT : CT:=mkCT [] true fun l K=>match l with
 | [.inl (.sl 1 rows)]=>match unL rows with
  | some l=>(l.length ≤ 1000 ∧ l.flatten.length ≤ 4194304) ∧ K (.c (.ints .i64 l.flatten))
  | none=>False
 | _=>False
def so2 : Cfg:=addT 38 concatCT cf0
theorem so2_ok : TblOk Try.prog so2:=q_I cf0_ok Try.func38 fun l K h=>by
 split at h
 ·split at h
  ·rename_i l hl
   rw [unL_some hl]
   exact ⟨_,(concat_ret l h.1.1 h.1.2).ret,h.2⟩
  ·exact h.elim
 ·exact h.elim
set_option maxHeartbeats 800000 in
theorem cloneI_ret (xs : List Int) (hx : xs.length ≤ 16777216) : RetO Try.prog 32 [.inl (.ints .i64 xs)] 3 1 (.ints .i64 xs):=by
 by_cases h0 : xs = []
 ·subst h0
  refine retO_split rfl ?_ ?_
  ·(refine q_x Try.func32 rfl (Nat.le_of_ble_eq_true rfl) (fun F=>?_); simp only [q_z,q_y,Try.ntmps32,Try.results32])
   repeat' (first|with_reducible refine q_0 ?_|((with_reducible first|refine q_q cf0_ok fun K hK=>?_|refine q_r cf0_ok fun K hK=>?_);simp (maxSteps:=2000000) only [go_sem,↓reduceIte,reduceCtorEq,Nat.reduceLeDiff,Nat.reduceLT,Nat.reduceBEq,Nat.reduceAdd];(repeat1' with_reducible first|apply And.intro|intro _|(refine hK _ ?_;clear hK K))<;>(try (clear hK K;exact q_u)))|(with_reducible refine q_s ?_;(first|apply q_J|apply q_K|apply q_L|apply q_M|apply q_N|apply q_O)<;>try intro _))
   exact endsO_nil rfl rfl rfl (by omega) rfl
  ·(refine q_x Try.func32 rfl (Nat.le_of_ble_eq_true rfl) (fun F=>?_); simp only [q_z,q_y,Try.ntmps32,Try.results32])
   repeat' (first|with_reducible refine q_0 ?_|((with_reducible first|refine q_q cf0_ok fun K hK=>?_|refine q_r cf0_ok fun K hK=>?_);simp (maxSteps:=2000000) only [go_sem,↓reduceIte,reduceCtorEq,Nat.reduceLeDiff,Nat.reduceLT,Nat.reduceBEq,Nat.reduceAdd];(repeat1' with_reducible first|apply And.intro|intro _|(refine hK _ ?_;clear hK K))<;>(try (clear hK K;exact q_u)))|(with_reducible refine q_s ?_;(first|apply q_J|apply q_K|apply q_L|apply q_M|apply q_N|apply q_O)<;>try intro _))
   exact endsO_own rfl rfl rfl rfl rfl rfl rfl
 ·(refine q_x Try.func32 rfl (Nat.le_of_ble_eq_true rfl) (fun F=>?_); simp only [q_z,q_y,Try.ntmps32,Try.results32])
  repeat' (first|with_reducible refine q_0 ?_|((with_reducible first|refine q_q cf0_ok fun K hK=>?_|refine q_r cf0_ok fun K hK=>?_);simp (maxSteps:=2000000) only [go_sem,↓reduceIte,reduceCtorEq,Nat.reduceLeDiff,Nat.reduceLT,Nat.reduceBEq,Nat.reduceAdd];(repeat1' with_reducible first|apply And.intro|intro _|(refine hK _ ?_;clear hK K))<;>(try (clear hK K;exact q_u)))|(with_reducible refine q_s ?_;(first|apply q_J|apply q_K|apply q_L|apply q_M|apply q_N|apply q_O)<;>try intro _))
  exact endsO_own rfl rfl rfl rfl rfl rfl rfl
def cloneICT : CT:=mkCTO [.inl (some (.ints .i64 []))] 3 1 fun l K=>match l with
 | [.inl (.ints .i64 xs)]=>xs.length ≤ 16777216 ∧ K (.c (.ints .i64 xs))
 | _=>False
def so3 : Cfg:=addT 32 cloneICT cf0
theorem so3_ok : TblOk Try.prog so3:=mkCTO_ok cf0_ok (q_C Try.func32 (by kernel_rfl) (by kernel_rfl)) rfl fun l K h=>by
 split at h
 ·exact ⟨_,cloneI_ret _ h.1,h.2⟩
 ·exact h.elim
attribute [go_sem] concatCT cloneICT unL
def midF (n f w : Nat) : Nat:=min n (f + w)
abbrev gP (p : Pn) : List C:=[.ints .i64 p.o,.i .i64 (p.w : Nat),.i .i64 (p.f : Nat),.i .i64 (p.l : Nat),.i .i64 (p.r : Nat),.ints .i64 p.m]
abbrev pP : Option C ⊕ List (Option C):=.inr [some (.ints .i64 []),none,none,none,none,some (.ints .i64 [])]
set_option maxHeartbeats 1600000 in
theorem runs_ret (p : Pn) (hn : p.o.length ≤ 1000) (hw : p.w ≤ 2000) (hf : p.f ≤ 1000) : Ret Try.prog 34 false [.inr (gP p)] (.t [.inl (.i .i64 (midF p.o.length p.f p.w : Nat)),.inl (.i .i64 (midF p.o.length p.f (2 * p.w) : Nat))]):=by
 (refine q_H Try.func34 (fun F=>?_); simp only [q_z,q_y,Try.ntmps34,Try.results34])
 repeat' (first|with_reducible refine q_0 ?_|((with_reducible first|refine q_q cf0_ok fun K hK=>?_|refine q_r cf0_ok fun K hK=>?_);simp (maxSteps:=2000000) only [go_sem,↓reduceIte,reduceCtorEq,Nat.reduceLeDiff,Nat.reduceLT,Nat.reduceBEq,Nat.reduceAdd];(repeat1' with_reducible first|apply And.intro|(intro _;try exact q_v)|(refine hK _ ?_;clear hK K))<;>(try (clear hK K;exact q_u)))|(with_reducible refine q_s ?_;(first|apply q_J|apply q_K|apply q_L|apply q_M|apply q_N|apply q_O)<;>try (intro _;try exact q_v)))
 all_goals first | omega | (refine q_A ?_; simp only [resAV,q_y,midF,AV.t.injEq,List.cons.injEq,Sum.inl.injEq,C.i.injEq,true_and,and_true]; omega)
def runsCT : CT:=mkCT [pP] true fun l K=>match l with
 | [.inr [.ints .i64 o,.i .i64 w,.i .i64 f,.i .i64 l,.i .i64 r,.ints .i64 m]]=>(o.length ≤ 1000 ∧ (0 ≤ w ∧ w ≤ 2000) ∧ (0 ≤ f ∧ f ≤ 1000) ∧ 0 ≤ l ∧ 0 ≤ r) ∧ K (.t [.inl (.i .i64 (midF o.length f.toNat w.toNat : Nat)),.inl (.i .i64 (midF o.length f.toNat (2 * w.toNat) : Nat))])
 | _=>False
def ob1 : Cfg:=addT 34 runsCT cf0
theorem ob1_ok : TblOk Try.prog ob1:=q_I cf0_ok Try.func34 fun l K h=>by
 split at h
 ·rename_i o w f l r m
  obtain ⟨⟨h1,h2,h3,h4,h5⟩,h⟩:=h
  obtain ⟨w,rfl⟩:=Int.eq_ofNat_of_zero_le h2.1
  obtain ⟨f,rfl⟩:=Int.eq_ofNat_of_zero_le h3.1
  obtain ⟨l,rfl⟩:=Int.eq_ofNat_of_zero_le h4
  obtain ⟨r,rfl⟩:=Int.eq_ofNat_of_zero_le h5
  exact ⟨_,(runs_ret ⟨o,w,f,l,r,m⟩ h1 (by simp only; omega) (by simp only; omega)).plain rfl,h⟩
 ·exact h.elim
attribute [go_sem] runsCT
def obt : Cfg:=listT [(32,cloneICT),(38,concatCT),(34,runsCT)] [27]
theorem obt_ok : TblOk Try.prog obt:=listE_ok (by simp only [List.mem_singleton,forall_eq]; exact flt) ⟨⟨so3,so3_ok,rfl⟩,⟨so2,so2_ok,rfl⟩,⟨ob1,ob1_ok,rfl⟩,trivial⟩
attribute [go_sem] obt
set_option maxRecDepth 100000 in
set_option maxHeartbeats 3200000 in
theorem settle_ret (p : Pn) (hp : p.Ok) : Ret Try.prog 31 false [.inr (gP p)] (.g (gP (settle p))):=by
 have hn:=hp.n
 have hw:=hp.w1
 have hf:=hp.f1
 have hl:=hp.l1
 have hr:=hp.r1
 (refine q_H Try.func31 (fun F=>?_); simp only [q_z,q_y,Try.ntmps31,Try.results31])
 repeat' (first|with_reducible refine q_0 ?_|((with_reducible first|refine q_q obt_ok fun K hK=>?_|refine q_r obt_ok fun K hK=>?_);simp (maxSteps:=2000000) only [go_sem,↓reduceIte,reduceCtorEq,Nat.reduceLeDiff,Nat.reduceLT,Nat.reduceBEq,Nat.reduceAdd];(repeat1' with_reducible first|apply And.intro|(intro _;try exact q_v)|(refine hK _ ?_;clear hK K))<;>(try (clear hK K;exact q_u)))|(with_reducible refine q_s ?_;(first|apply q_J|apply q_K|apply q_L|apply q_M|apply q_N|apply q_O)<;>try (intro _;try exact q_v)))
 all_goals try omega
 refine q_G (ι:={ q : Pn // q.Ok ∧ settle q = settle p }) (fun q=>⟨83,[(1,.bx 0 0),(2,.bx 1 0)],⟨[(1,[.c .nil,.c (.i .i64 0),.c (.i .i64 0),.c (.i .i64 0),.c (.i .i64 0),.c .nil]),(0,[.own 2 0,.c (.i .i64 (q.1.w : Nat)),.c (.i .i64 (q.1.f : Nat)),.c (.i .i64 (q.1.l : Nat)),.c (.i .i64 (q.1.r : Nat)),.c (.ints .i64 q.1.m)])],[(2,⟨0,3,1,.ints .i64 q.1.o⟩)],[]⟩,3⟩) (fun q=>q.1.mu) ⟨p,hp,rfl⟩ ?_ ?_
 ·exact q_D
 rintro ⟨q,g1,g2⟩
 simp only at g1 g2 ⊢
 have qn:=g1.n
 have qw0:=g1.w0
 have qw:=g1.w1
 have qf:=g1.f1
 have ql:=g1.l1
 have qr:=g1.r1
 have hmid : midF q.o.length q.f q.w = q.mid:=rfl
 have hen : midF q.o.length q.f (2 * q.w) = q.en:=rfl
 by_cases ho : q.on
 ·obtain ⟨h1,h2,h3,h4,h5,h6⟩:=Pn.facts g1 ho
  have ho2 : q.w < q.o.length:=ho
  have qe : q.en ≤ 1000:=by omega
  by_cases ha : q.asks
  ·have hs : settle q = q:=settle_done (fun h=>h.2 ha)
   rw [hs] at g2
   obtain ⟨a1,a2⟩:=ha
   repeat' (first|with_reducible refine q_0 ?_|((with_reducible first|refine q_q obt_ok fun K hK=>?_|refine q_r obt_ok fun K hK=>?_);simp (maxSteps:=2000000) only [go_sem,↓reduceIte,reduceCtorEq,Nat.reduceLeDiff,Nat.reduceLT,Nat.reduceBEq,Nat.reduceAdd,hmid,hen];(repeat1' with_reducible first|apply And.intro|(intro _;try exact q_v)|(refine hK _ ?_;clear hK K))<;>(try (clear hK K;exact q_u)))|(with_reducible refine q_s ?_;(first|apply q_J|apply q_K|apply q_L|apply q_M|apply q_N|apply q_O)<;>try (intro _;try exact q_v)))
   all_goals first | omega | exact q_A (by rw [← g2]; rfl)
  ·have hs:=settle_step g1 ho ha
   have ha2 : ¬ (q.f + q.l < q.mid ∧ q.mid + q.r < q.en):=ha
   have e1 : q.f + q.l + (q.mid - (q.f + q.l)) = q.mid:=by omega
   have e2 : q.mid + q.r + (q.en - (q.mid + q.r)) = q.en:=by omega
   have e3 : [q.m,(q.o.take q.mid).drop (q.f + q.l),(q.o.take q.en).drop (q.mid + q.r)].flatten = q.mrg:=by simp [Pn.mrg]
   have e4:=Pn.mrg_len g1 ho
   have e5 : Nat.min q.mrg.length (q.en - q.f) = q.mrg.length:=by rw [e4]; exact Nat.min_self _
   have e6 : q.f + q.mrg.length = q.en:=by omega
   have e7 : q.o.take q.f ++ q.mrg ++ q.o.drop q.en = q.put:=rfl
   have e8:=Pn.put_len g1 ho
   have e9 : q.mrg.length ≤ 4194304:=by omega
   have m1:=Pn.step_ok g1 ho
   have m2:=Pn.step_mu g1 ho
   repeat' (first|with_reducible refine q_0 ?_|((with_reducible first|refine q_q obt_ok fun K hK=>?_|refine q_r obt_ok fun K hK=>?_);simp (maxSteps:=2000000) only [go_sem,↓reduceIte,reduceCtorEq,Nat.reduceLeDiff,Nat.reduceLT,Nat.reduceBEq,Nat.reduceAdd,hmid,hen,e1,e2,unL,e3,e5,e6,List.take_length,e7,e8];(repeat1' with_reducible first|apply And.intro|(intro _;try exact q_v)|(refine hK _ ?_;clear hK K))<;>(try (clear hK K;exact q_u)))|(with_reducible refine q_s ?_;(first|apply q_J|apply q_K|apply q_L|apply q_M|apply q_N|apply q_O)<;>try (intro _;try exact q_v)))
   all_goals first | omega | rfl | skip
   all_goals
    rcases Nat.lt_or_ge q.en q.o.length with hc | hc
    ·first
     | (exfalso; omega)
     | (have hq : q.step = ⟨q.put,q.w,q.en,0,0,[]⟩:=if_neg (by omega); refine q_F ⟨q.step,m1,hs.trans g2⟩ ?_ m2; simp only [hq]; exact q_D)
    ·first
     | (exfalso; omega)
     | (have hq : q.step = ⟨q.put,2 * q.w,0,0,0,[]⟩:=if_pos hc; refine q_F ⟨q.step,m1,hs.trans g2⟩ ?_ m2; simp only [hq]; exact q_D)
 ·have ho2 : ¬ q.w < q.o.length:=ho
  have hs : settle q = q:=settle_done (fun h=>ho h.1)
  rw [hs] at g2
  repeat' (first|with_reducible refine q_0 ?_|((with_reducible first|refine q_q obt_ok fun K hK=>?_|refine q_r obt_ok fun K hK=>?_);simp (maxSteps:=2000000) only [go_sem,↓reduceIte,reduceCtorEq,Nat.reduceLeDiff,Nat.reduceLT,Nat.reduceBEq,Nat.reduceAdd];(repeat1' with_reducible first|apply And.intro|(intro _;try exact q_v)|(refine hK _ ?_;clear hK K))<;>(try (clear hK K;exact q_u)))|(with_reducible refine q_s ?_;(first|apply q_J|apply q_K|apply q_L|apply q_M|apply q_N|apply q_O)<;>try (intro _;try exact q_v)))
  all_goals first | omega | exact q_A (by rw [← g2]; rfl)
def settleCT : CT:=mkCT [pP] false fun l K=>match l with
 | [.inr [.ints .i64 o,.i .i64 w,.i .i64 f,.i .i64 l,.i .i64 r,.ints .i64 m]]=>(0 ≤ w ∧ 0 ≤ f ∧ 0 ≤ l ∧ 0 ≤ r ∧ (Pn.mk o w.toNat f.toNat l.toNat r.toNat m).Ok) ∧ K (.g (gP (settle (Pn.mk o w.toNat f.toNat l.toNat r.toNat m))))
 | _=>False
def oc1 : Cfg:=addT 31 settleCT cf0
theorem oc1_ok : TblOk Try.prog oc1:=q_I cf0_ok Try.func31 fun l K h=>by
 split at h
 ·rename_i o w f l r m
  obtain ⟨⟨h2,h3,h4,h5,h6⟩,h⟩:=h
  obtain ⟨w,rfl⟩:=Int.eq_ofNat_of_zero_le h2
  obtain ⟨f,rfl⟩:=Int.eq_ofNat_of_zero_le h3
  obtain ⟨l,rfl⟩:=Int.eq_ofNat_of_zero_le h4
  obtain ⟨r,rfl⟩:=Int.eq_ofNat_of_zero_le h5
  exact ⟨_,settle_ret ⟨o,w,f,l,r,m⟩ h6,h⟩
 ·exact h.elim
attribute [go_sem] settleCT pP
end Go.Proofs.Ytmcjojbffidlbaa

namespace Go.Proofs.Ytmcjojbffidlbaa
set_option linter.unusedSimpArgs false
set_option linter.unusedVariables false
open Go.Abs Go.Proofs.NatL

set_option maxHeartbeats 1600000 in
theorem ask_on (p : Pn) (hp : p.Ok) (ho : p.on) (ha : p.asks) : Ret Try.prog 15 false [.inr (gP p)] (.t [.inl (.i .i64 p.i),.inl (.i .i64 p.j),.inl (.b true)]):=by
 have hn:=hp.n
 have hw:=hp.w1
 have hf:=hp.f1
 have hl:=hp.l1
 have hr:=hp.r1
 have hmid : midF p.o.length p.f p.w = p.mid:=rfl
 have hen : midF p.o.length p.f (2 * p.w) = p.en:=rfl
 obtain ⟨h1,h2,h3,h4,h5,h6⟩:=Pn.facts hp ho
 have ho2 : p.w < p.o.length:=ho
 obtain ⟨a1,a2⟩:=ha
 (refine q_H Try.func15 (fun F=>?_); simp only [q_z,q_y,Try.ntmps15,Try.results15])
 repeat' (first|with_reducible refine q_0 ?_|((with_reducible first|refine q_q obt_ok fun K hK=>?_|refine q_r obt_ok fun K hK=>?_);simp (maxSteps:=2000000) only [go_sem,↓reduceIte,reduceCtorEq,Nat.reduceLeDiff,Nat.reduceLT,Nat.reduceBEq,Nat.reduceAdd,hmid,hen];(repeat1' with_reducible first|apply And.intro|(intro _;try exact q_v)|(refine hK _ ?_;clear hK K))<;>(try (clear hK K;exact q_u)))|(with_reducible refine q_s ?_;(first|apply q_J|apply q_K|apply q_L|apply q_M|apply q_N|apply q_O)<;>try (intro _;try exact q_v)))
 all_goals first | omega | exact q_A rfl
set_option maxHeartbeats 1600000 in
theorem ask_off (p : Pn) (ho : ¬ p.w < p.o.length) : Ret Try.prog 15 false [.inr (gP p)] (.t [.inl (.i .i64 0),.inl (.i .i64 0),.inl (.b false)]):=by
 (refine q_H Try.func15 (fun F=>?_); simp only [q_z,q_y,Try.ntmps15,Try.results15])
 repeat' (first|with_reducible refine q_0 ?_|((with_reducible first|refine q_q obt_ok fun K hK=>?_|refine q_r obt_ok fun K hK=>?_);simp (maxSteps:=2000000) only [go_sem,↓reduceIte,reduceCtorEq,Nat.reduceLeDiff,Nat.reduceLT,Nat.reduceBEq,Nat.reduceAdd];(repeat1' with_reducible first|apply And.intro|(intro _;try exact q_v)|(refine hK _ ?_;clear hK K))<;>(try (clear hK K;exact q_u)))|(with_reducible refine q_s ?_;(first|apply q_J|apply q_K|apply q_L|apply q_M|apply q_N|apply q_O)<;>try (intro _;try exact q_v)))
 all_goals first | omega | exact q_A rfl
def askCT : CT:=mkCT [pP] true fun l K=>match l with
 | [.inr [.ints .i64 o,.i .i64 w,.i .i64 f,.i .i64 l,.i .i64 r,.ints .i64 m]]=>(0 ≤ w ∧ 0 ≤ f ∧ 0 ≤ l ∧ 0 ≤ r ∧ (w.toNat < o.length → (Pn.mk o w.toNat f.toNat l.toNat r.toNat m).Ok ∧ (Pn.mk o w.toNat f.toNat l.toNat r.toNat m).asks)) ∧
   (w.toNat < o.length → K (.t [.inl (.i .i64 (Pn.mk o w.toNat f.toNat l.toNat r.toNat m).i),.inl (.i .i64 (Pn.mk o w.toNat f.toNat l.toNat r.toNat m).j),.inl (.b true)])) ∧ (¬ w.toNat < o.length → K (.t [.inl (.i .i64 0),.inl (.i .i64 0),.inl (.b false)]))
 | _=>False
def oc2 : Cfg:=addT 15 askCT cf0
theorem oc2_ok : TblOk Try.prog oc2:=q_I cf0_ok Try.func15 fun l K h=>by
 split at h
 ·rename_i o w f l r m
  obtain ⟨⟨h2,h3,h4,h5,h6⟩,hy,hn⟩:=h
  obtain ⟨w,rfl⟩:=Int.eq_ofNat_of_zero_le h2
  obtain ⟨f,rfl⟩:=Int.eq_ofNat_of_zero_le h3
  obtain ⟨l,rfl⟩:=Int.eq_ofNat_of_zero_le h4
  obtain ⟨r,rfl⟩:=Int.eq_ofNat_of_zero_le h5
  by_cases ho : w < o.length
  ·exact ⟨_,(ask_on ⟨o,w,f,l,r,m⟩ (h6 ho).1 ho (h6 ho).2).plain rfl,hy ho⟩
  ·exact ⟨_,(ask_off ⟨o,w,f,l,r,m⟩ ho).plain rfl,hn ho⟩
 ·exact h.elim
attribute [go_sem] askCT
def odt : Cfg:=listT [(30,atCT),(32,cloneICT),(15,askCT)] [27]
theorem odt_ok : TblOk Try.prog odt:=listE_ok (by simp only [List.mem_singleton,forall_eq]; exact flt) ⟨⟨oa1,oa1_ok,rfl⟩,⟨so3,so3_ok,rfl⟩,⟨oc2,oc2_ok,rfl⟩,trivial⟩
attribute [go_sem] odt
def odu : Cfg:=listT [(31,settleCT)] [27]
theorem odu_ok : TblOk Try.prog odu:=listE_ok (by simp only [List.mem_singleton,forall_eq]; exact flt) ⟨⟨oc1,oc1_ok,rfl⟩,trivial⟩
attribute [go_sem] odu
set_option maxRecDepth 100000 in
set_option maxHeartbeats 1600000 in
theorem start_ok (n : Nat) (hn : n ≤ 1000) : Ret Try.prog 8 false [.inl (.i .i64 (n : Nat))] (.t [.inr (gP (settle (startP n))),.inr [.i .i64 0,.i .i64 0]]):=by
 have hok:=startP_ok hn
 (refine q_H Try.func8 (fun F=>?_); simp only [q_z,q_y,Try.ntmps8,Try.results8])
 repeat' (first|with_reducible refine q_0 ?_|((with_reducible first|refine q_q odt_ok fun K hK=>?_|refine q_r odt_ok fun K hK=>?_);simp (maxSteps:=2000000) only [go_sem,↓reduceIte,reduceCtorEq,Nat.reduceLeDiff,Nat.reduceLT,Nat.reduceBEq,Nat.reduceAdd];(repeat1' with_reducible first|apply And.intro|(intro _;try exact q_v)|(refine hK _ ?_;clear hK K))<;>(try (clear hK K;exact q_u)))|(with_reducible refine q_s ?_;(first|apply q_J|apply q_K|apply q_L|apply q_M|apply q_N|apply q_O)<;>try (intro _;try exact q_v)))
 all_goals try omega
 refine q_G (ι:={ k : Nat // k ≤ n }) (fun k=>⟨29,[(2,.bx 0 0),(3,.bx 1 0),(4,.bx 2 0),(15,.c (.i .i64 (n : Nat))),(16,.c (.i .i64 (k.1 : Nat)))],⟨[(2,[.own 3 0,.c (.i .i64 1),.c (.i .i64 0),.c (.i .i64 0),.c (.i .i64 0),.c .nil]),(1,[.c (.i .i64 0),.c (.i .i64 0)]),(0,[.c .nil,.c (.i .i64 0),.c (.i .i64 0),.c (.i .i64 0),.c (.i .i64 0),.c .nil])],[(3,⟨0,3,1,.ints .i64 ((List.range k.1).map fun i : Nat=>(i : Int))⟩)],[]⟩,4⟩) (fun k=>n - k.1) ⟨0,by omega⟩ ?_ ?_
 ·exact q_D
 rintro ⟨k,k1⟩
 simp only at k1 ⊢
 have hlen : ((List.range k).map fun i : Nat=>(i : Int)).length = k:=by simp
 rcases Nat.lt_or_ge k n with hk | hk
 ·have hs : ((List.range (k + 1)).map fun i : Nat=>(i : Int)) = ((List.range k).map fun i : Nat=>(i : Int)) ++ [(k : Int)]:=by rw [List.range_succ,List.map_append]; rfl
  generalize ((List.range k).map fun i : Nat=>(i : Int)) = R at *
  repeat' (first|with_reducible refine q_0 ?_|((with_reducible first|refine q_q odt_ok fun K hK=>?_|refine q_r odt_ok fun K hK=>?_);simp (maxSteps:=2000000) only [go_sem,↓reduceIte,reduceCtorEq,Nat.reduceLeDiff,Nat.reduceLT,Nat.reduceBEq,Nat.reduceAdd,hlen];(repeat1' with_reducible first|apply And.intro|(intro _;try exact q_v)|(refine hK _ ?_;clear hK K))<;>(try (clear hK K;exact q_u)))|(with_reducible refine q_s ?_;(first|apply q_J|apply q_K|apply q_L|apply q_M|apply q_N|apply q_O)<;>try (intro _;try exact q_v)))
  all_goals try omega
  refine q_F ⟨k + 1,hk⟩ ?_ (by simp only; omega)
  simp only [hs]
  exact q_D
 ·have hk' : k = n:=by omega
  subst hk'
  have hR : ((List.range k).map fun i : Nat=>(i : Int)) = (startP k).o:=rfl
  rw [hR] at hlen ⊢
  have e : (⟨(startP k).o,1,0,0,0,[]⟩ : Pn) = startP k:=rfl
  generalize startP k = s at *
  repeat' (first|with_reducible refine q_0 ?_|((with_reducible first|refine q_q odt_ok fun K hK=>?_|refine q_r odt_ok fun K hK=>?_);simp (maxSteps:=2000000) only [go_sem,↓reduceIte,reduceCtorEq,Nat.reduceLeDiff,Nat.reduceLT,Nat.reduceBEq,Nat.reduceAdd,hlen];(repeat1' with_reducible first|apply And.intro|(intro _;try exact q_v)|(refine hK _ ?_;clear hK K))<;>(try (clear hK K;exact q_u)))|(with_reducible refine q_s ?_;(first|apply q_J|apply q_K|apply q_L|apply q_M|apply q_N|apply q_O)<;>try (intro _;try exact q_v)))
  all_goals try omega
  refine awp_told ⟨29,[(2,.bx 0 0),(3,.bx 1 0),(4,.bx 2 0)],⟨[(2,[.c (.ints .i64 s.o),.c (.i .i64 1),.c (.i .i64 0),.c (.i .i64 0),.c (.i .i64 0),.c (.ints .i64 [])]),(1,[.c (.i .i64 0),.c (.i .i64 0)]),(0,[.c .nil,.c (.i .i64 0),.c (.i .i64 0),.c (.i .i64 0),.c (.i .i64 0),.c .nil])],[],[]⟩,4⟩ ?_ ?_
  ·exact q_D
  repeat' (first|with_reducible refine q_0 ?_|((with_reducible first|refine q_q odu_ok fun K hK=>?_|refine q_r odu_ok fun K hK=>?_);simp (maxSteps:=2000000) only [go_sem,↓reduceIte,reduceCtorEq,Nat.reduceLeDiff,Nat.reduceLT,Nat.reduceBEq,Nat.reduceAdd,Int.toNat_one,e];(repeat1' with_reducible first|apply And.intro|(intro _;try exact q_v)|(refine hK _ ?_;clear hK K))<;>(try (clear hK K;exact q_u)))|(with_reducible refine q_s ?_;(first|apply q_J|apply q_K|apply q_L|apply q_M|apply q_N|apply q_O)<;>try (intro _;try exact q_v)))
  all_goals first | omega | exact hok | exact q_A rfl
theorem start_bad (n : Int) (hn : n < 0 ∨ 1000 < n) : Ret Try.prog 8 false [.inl (.i .i64 n)] (.t [.inr (gP ⟨[],0,0,0,0,[]⟩),.inr [.i .i64 4,.i .i64 (-1)]]):=by
 (refine q_H Try.func8 (fun F=>?_); simp only [q_z,q_y,Try.ntmps8,Try.results8])
 repeat' (first|with_reducible refine q_0 ?_|((with_reducible first|refine q_q odt_ok fun K hK=>?_|refine q_r odt_ok fun K hK=>?_);simp (maxSteps:=2000000) only [go_sem,↓reduceIte,reduceCtorEq,Nat.reduceLeDiff,Nat.reduceLT,Nat.reduceBEq,Nat.reduceAdd];(repeat1' with_reducible first|apply And.intro|(intro _;try exact q_v)|(refine hK _ ?_;clear hK K))<;>(try (clear hK K;exact q_u)))|(with_reducible refine q_s ?_;(first|apply q_J|apply q_K|apply q_L|apply q_M|apply q_N|apply q_O)<;>try (intro _;try exact q_v)))
 all_goals first | omega | exact q_B [pP,.inr [none,none]] rfl rfl
def startCT : CT:=mkCT [] false fun l K=>match l with
 | [.inl (.i .i64 n)]=>((n < 0 ∨ 1000 < n) → K (.t [.inr (gP ⟨[],0,0,0,0,[]⟩),.inr [.i .i64 4,.i .i64 (-1)]])) ∧ (¬ (n < 0 ∨ 1000 < n) → K (.t [.inr (gP (settle (startP n.toNat))),.inr [.i .i64 0,.i .i64 0]]))
 | _=>False
def oc3 : Cfg:=addT 8 startCT cf0
theorem oc3_ok : TblOk Try.prog oc3:=q_I cf0_ok Try.func8 fun l K h=>by
 split at h
 ·rename_i n
  by_cases hn : n < 0 ∨ 1000 < n
  ·exact ⟨_,start_bad n hn,h.1 hn⟩
  ·obtain ⟨k,rfl⟩:=Int.eq_ofNat_of_zero_le (show 0 ≤ n by omega)
   exact ⟨_,start_ok k (by omega),h.2 hn⟩
 ·exact h.elim
set_option maxRecDepth 100000 in
set_option maxHeartbeats 1600000 in
theorem tell_ret (p : Pn) (b : Bool) (hp : p.Ok) (ha : p.on → p.asks) : Ret Try.prog 16 false [.inr (gP p),.inl (.b b)] (.g (gP (tellP p b))):=by
 have hn:=hp.n
 have hm:=hp.mm
 have hl:=hp.l1
 have hr:=hp.r1
 have hE : (Pn.mk p.o p.w p.f p.l p.r p.m) = p:=rfl
 by_cases ho : p.w < p.o.length
 ·have hk:=ha ho
  have hT : tellP p b = settle (p.told b):=if_pos ho
  have ht:=told_ok hp ho hk b
  rw [hT]
  obtain ⟨q,hq⟩ : ∃ q,p.told b = q:=⟨_,rfl⟩
  rw [hq] at ht ⊢
  cases b
  ·have hq2 : q = ⟨p.o,p.w,p.f,p.l + 1,p.r,p.m ++ [p.j]⟩:=hq ▸ (if_neg (by simp))
   (refine q_H Try.func16 (fun F=>?_); simp only [q_z,q_y,Try.ntmps16,Try.results16])
   repeat' (first|with_reducible refine q_0 ?_|((with_reducible first|refine q_q odt_ok fun K hK=>?_|refine q_r odt_ok fun K hK=>?_);simp (maxSteps:=2000000) only [go_sem,↓reduceIte,reduceCtorEq,Nat.reduceLeDiff,Nat.reduceLT,Nat.reduceBEq,Nat.reduceAdd,hE];(repeat1' with_reducible first|apply And.intro|(intro _;try exact q_v)|(refine hK _ ?_;clear hK K))<;>(try (clear hK K;exact q_u)))|(with_reducible refine q_s ?_;(first|apply q_J|apply q_K|apply q_L|apply q_M|apply q_N|apply q_O)<;>try (intro _;try exact q_v)))
   all_goals first | omega | exact ⟨hp,hk⟩ | skip
   refine awp_told ⟨42,[(2,.bx 0 0),(4,.bx 1 0)],⟨[(1,[.c .nil,.c (.i .i64 0),.c (.i .i64 0),.c (.i .i64 0),.c (.i .i64 0),.c .nil]),(0,[.c (.ints .i64 q.o),.c (.i .i64 (q.w : Nat)),.c (.i .i64 (q.f : Nat)),.c (.i .i64 (q.l : Nat)),.c (.i .i64 (q.r : Nat)),.c (.ints .i64 q.m)])],[],[]⟩,3⟩ ?_ ?_
   ·subst hq2
    exact q_D
   have hE2 : (Pn.mk q.o q.w q.f q.l q.r q.m) = q:=rfl
   clear hq hq2
   repeat' (first|with_reducible refine q_0 ?_|((with_reducible first|refine q_q odu_ok fun K hK=>?_|refine q_r odu_ok fun K hK=>?_);simp (maxSteps:=2000000) only [go_sem,↓reduceIte,reduceCtorEq,Nat.reduceLeDiff,Nat.reduceLT,Nat.reduceBEq,Nat.reduceAdd,hE2];(repeat1' with_reducible first|apply And.intro|(intro _;try exact q_v)|(refine hK _ ?_;clear hK K))<;>(try (clear hK K;exact q_u)))|(with_reducible refine q_s ?_;(first|apply q_J|apply q_K|apply q_L|apply q_M|apply q_N|apply q_O)<;>try (intro _;try exact q_v)))
   all_goals first | omega | exact ht | exact q_A rfl
  ·have hq2 : q = ⟨p.o,p.w,p.f,p.l,p.r + 1,p.m ++ [p.i]⟩:=hq ▸ (if_pos rfl)
   (refine q_H Try.func16 (fun F=>?_); simp only [q_z,q_y,Try.ntmps16,Try.results16])
   repeat' (first|with_reducible refine q_0 ?_|((with_reducible first|refine q_q odt_ok fun K hK=>?_|refine q_r odt_ok fun K hK=>?_);simp (maxSteps:=2000000) only [go_sem,↓reduceIte,reduceCtorEq,Nat.reduceLeDiff,Nat.reduceLT,Nat.reduceBEq,Nat.reduceAdd,hE];(repeat1' with_reducible first|apply And.intro|(intro _;try exact q_v)|(refine hK _ ?_;clear hK K))<;>(try (clear hK K;exact q_u)))|(with_reducible refine q_s ?_;(first|apply q_J|apply q_K|apply q_L|apply q_M|apply q_N|apply q_O)<;>try (intro _;try exact q_v)))
   all_goals first | omega | exact ⟨hp,hk⟩ | skip
   refine awp_told ⟨42,[(2,.bx 0 0),(4,.bx 1 0)],⟨[(1,[.c .nil,.c (.i .i64 0),.c (.i .i64 0),.c (.i .i64 0),.c (.i .i64 0),.c .nil]),(0,[.c (.ints .i64 q.o),.c (.i .i64 (q.w : Nat)),.c (.i .i64 (q.f : Nat)),.c (.i .i64 (q.l : Nat)),.c (.i .i64 (q.r : Nat)),.c (.ints .i64 q.m)])],[],[]⟩,3⟩ ?_ ?_
   ·subst hq2
    exact q_D
   have hE2 : (Pn.mk q.o q.w q.f q.l q.r q.m) = q:=rfl
   clear hq hq2
   repeat' (first|with_reducible refine q_0 ?_|((with_reducible first|refine q_q odu_ok fun K hK=>?_|refine q_r odu_ok fun K hK=>?_);simp (maxSteps:=2000000) only [go_sem,↓reduceIte,reduceCtorEq,Nat.reduceLeDiff,Nat.reduceLT,Nat.reduceBEq,Nat.reduceAdd,hE2];(repeat1' with_reducible first|apply And.intro|(intro _;try exact q_v)|(refine hK _ ?_;clear hK K))<;>(try (clear hK K;exact q_u)))|(with_reducible refine q_s ?_;(first|apply q_J|apply q_K|apply q_L|apply q_M|apply q_N|apply q_O)<;>try (intro _;try exact q_v)))
   all_goals first | omega | exact ht | exact q_A rfl
 ·have hT : tellP p b = p:=if_neg ho
  rw [hT]
  (refine q_H Try.func16 (fun F=>?_); simp only [q_z,q_y,Try.ntmps16,Try.results16])
  repeat' (first|with_reducible refine q_0 ?_|((with_reducible first|refine q_q odt_ok fun K hK=>?_|refine q_r odt_ok fun K hK=>?_);simp (maxSteps:=2000000) only [go_sem,↓reduceIte,reduceCtorEq,Nat.reduceLeDiff,Nat.reduceLT,Nat.reduceBEq,Nat.reduceAdd,hE];(repeat1' with_reducible first|apply And.intro|(intro _;try exact q_v)|(refine hK _ ?_;clear hK K))<;>(try (clear hK K;exact q_u)))|(with_reducible refine q_s ?_;(first|apply q_J|apply q_K|apply q_L|apply q_M|apply q_N|apply q_O)<;>try (intro _;try exact q_v)))
  all_goals first | omega | exact q_A rfl
end Go.Proofs.Ytmcjojbffidlbaa

namespace Go.Proofs.Ytmcjojbffidlbaa
set_option linter.unusedSimpArgs false
set_option linter.unusedVariables false
open Go.Abs Go.Proofs.NatL

def tellCT : CT:=mkCT [pP] false fun l K=>match l with
 | [.inr [.ints .i64 o,.i .i64 w,.i .i64 f,.i .i64 l,.i .i64 r,.ints .i64 m],.inl (.b b)]=>(0 ≤ w ∧ 0 ≤ f ∧ 0 ≤ l ∧ 0 ≤ r ∧ (Pn.mk o w.toNat f.toNat l.toNat r.toNat m).Ok ∧ (w.toNat < o.length → (Pn.mk o w.toNat f.toNat l.toNat r.toNat m).asks)) ∧
   K (.g (gP (tellP (Pn.mk o w.toNat f.toNat l.toNat r.toNat m) b)))
 | _=>False
def oc4 : Cfg:=addT 16 tellCT cf0
theorem oc4_ok : TblOk Try.prog oc4:=q_I cf0_ok Try.func16 fun l K h=>by
 split at h
 ·rename_i o w f l r m b
  obtain ⟨⟨h2,h3,h4,h5,h6,h7⟩,h⟩:=h
  obtain ⟨w,rfl⟩:=Int.eq_ofNat_of_zero_le h2
  obtain ⟨f,rfl⟩:=Int.eq_ofNat_of_zero_le h3
  obtain ⟨l,rfl⟩:=Int.eq_ofNat_of_zero_le h4
  obtain ⟨r,rfl⟩:=Int.eq_ofNat_of_zero_le h5
  exact ⟨_,tell_ret ⟨o,w,f,l,r,m⟩ b h6 h7,h⟩
 ·exact h.elim
set_option maxHeartbeats 1600000 in
theorem order_on (p : Pn) (hp : p.Ok) (ho : p.w < p.o.length) (ha : p.asks) : Ret Try.prog 10 false [.inr (gP p)] (.t [.inl (.ints .i64 []),.inr [.i .i64 20,.i .i64 (-1)]]):=by
 have hE : (Pn.mk p.o p.w p.f p.l p.r p.m) = p:=rfl
 (refine q_H Try.func10 (fun F=>?_); simp only [q_z,q_y,Try.ntmps10,Try.results10])
 repeat' (first|with_reducible refine q_0 ?_|((with_reducible first|refine q_q odt_ok fun K hK=>?_|refine q_r odt_ok fun K hK=>?_);simp (maxSteps:=2000000) only [go_sem,↓reduceIte,reduceCtorEq,Nat.reduceLeDiff,Nat.reduceLT,Nat.reduceBEq,Nat.reduceAdd,hE];(repeat1' with_reducible first|apply And.intro|(intro _;try exact q_v)|(refine hK _ ?_;clear hK K))<;>(try (clear hK K;exact q_u)))|(with_reducible refine q_s ?_;(first|apply q_J|apply q_K|apply q_L|apply q_M|apply q_N|apply q_O)<;>try (intro _;try exact q_v)))
 all_goals first | omega | exact ⟨hp,ha⟩ | exact q_B [.inl (some (.ints .i64 [])),.inr [none,none]] rfl rfl | exact q_A rfl
set_option maxHeartbeats 1600000 in
theorem order_off (p : Pn) (hn : p.o.length ≤ 1000) (ho : ¬ p.w < p.o.length) : Ret Try.prog 10 false [.inr (gP p)] (.t [.inl (.ints .i64 p.o),.inr [.i .i64 0,.i .i64 0]]):=by
 (refine q_H Try.func10 (fun F=>?_); simp only [q_z,q_y,Try.ntmps10,Try.results10])
 repeat' (first|with_reducible refine q_0 ?_|((with_reducible first|refine q_q odt_ok fun K hK=>?_|refine q_r odt_ok fun K hK=>?_);simp (maxSteps:=2000000) only [go_sem,↓reduceIte,reduceCtorEq,Nat.reduceLeDiff,Nat.reduceLT,Nat.reduceBEq,Nat.reduceAdd];(repeat1' with_reducible first|apply And.intro|(intro _;try exact q_v)|(refine hK _ ?_;clear hK K))<;>(try (clear hK K;exact q_u)))|(with_reducible refine q_s ?_;(first|apply q_J|apply q_K|apply q_L|apply q_M|apply q_N|apply q_O)<;>try (intro _;try exact q_v)))
 all_goals first | omega | exact q_B [.inl (some (.ints .i64 [])),.inr [none,none]] rfl rfl | exact q_A rfl
def orderCT : CT:=mkCT [pP] false fun l K=>match l with
 | [.inr [.ints .i64 o,.i .i64 w,.i .i64 f,.i .i64 l,.i .i64 r,.ints .i64 m]]=>(0 ≤ w ∧ 0 ≤ f ∧ 0 ≤ l ∧ 0 ≤ r ∧ o.length ≤ 1000 ∧ (w.toNat < o.length → (Pn.mk o w.toNat f.toNat l.toNat r.toNat m).Ok ∧ (Pn.mk o w.toNat f.toNat l.toNat r.toNat m).asks)) ∧
   (w.toNat < o.length → K (.t [.inl (.ints .i64 []),.inr [.i .i64 20,.i .i64 (-1)]])) ∧ (¬ w.toNat < o.length → K (.t [.inl (.ints .i64 o),.inr [.i .i64 0,.i .i64 0]]))
 | _=>False
def oc5 : Cfg:=addT 10 orderCT cf0
theorem oc5_ok : TblOk Try.prog oc5:=q_I cf0_ok Try.func10 fun l K h=>by
 split at h
 ·rename_i o w f l r m
  obtain ⟨⟨h2,h3,h4,h5,h6,h7⟩,hy,hn⟩:=h
  obtain ⟨w,rfl⟩:=Int.eq_ofNat_of_zero_le h2
  obtain ⟨f,rfl⟩:=Int.eq_ofNat_of_zero_le h3
  obtain ⟨l,rfl⟩:=Int.eq_ofNat_of_zero_le h4
  obtain ⟨r,rfl⟩:=Int.eq_ofNat_of_zero_le h5
  by_cases ho : w < o.length
  ·exact ⟨_,order_on ⟨o,w,f,l,r,m⟩ (h7 ho).1 ho (h7 ho).2,hy ho⟩
  ·exact ⟨_,order_off ⟨o,w,f,l,r,m⟩ h6 ho,hn ho⟩
 ·exact h.elim
attribute [go_sem] startCT tellCT orderCT
def oet : Cfg:=listT [(11,atCT),(8,startCT),(15,askCT),(16,tellCT),(10,orderCT)] [27]
theorem oet_ok : TblOk Try.prog oet:=listE_ok (by simp only [List.mem_singleton,forall_eq]; exact flt) ⟨⟨oa2,oa2_ok,rfl⟩,⟨oc3,oc3_ok,rfl⟩,⟨oc2,oc2_ok,rfl⟩,⟨oc4,oc4_ok,rfl⟩,⟨oc5,oc5_ok,rfl⟩,trivial⟩
attribute [go_sem] oet
theorem ex_start : settle (startP 3) = ⟨[0,1,2],1,0,0,0,[]⟩:=by rfl
theorem ex_tell : tellP ⟨[0,1,2],1,0,0,0,[]⟩ true = ⟨[1,0,2],2,0,0,0,[]⟩:=by rfl
theorem ex_ok : (Pn.mk [0,1,2] 1 0 0 0 []).Ok ∧ (Pn.mk [0,1,2] 1 0 0 0 []).asks:=by
 have h:=settle_facts (startP_ok (n:=3) (by omega))
 rw [ex_start] at h
 exact ⟨h.1,h.2.1 (by decide)⟩
theorem ex_ok2 : (Pn.mk [1,0,2] 2 0 0 0 []).Ok ∧ (Pn.mk [1,0,2] 2 0 0 0 []).asks:=by
 have h:=tellP_ok ex_ok.1 (fun _=>ex_ok.2) true
 rw [ex_tell] at h
 exact ⟨h.1,h.2.1 (by decide)⟩
theorem ex_i : (Pn.mk [0,1,2] 1 0 0 0 []).i = 1:=by rfl
theorem ex_j : (Pn.mk [0,1,2] 1 0 0 0 []).j = 0:=by rfl
theorem ex_i2 : (Pn.mk [1,0,2] 2 0 0 0 []).i = 2:=by rfl
theorem ex_j2 : (Pn.mk [1,0,2] 2 0 0 0 []).j = 1:=by rfl
set_option maxRecDepth 100000 in
set_option maxHeartbeats 3200000 in
theorem sorts_ret : Ret Try.prog 9 false [] (.c (.b true)):=by
 have e3 : (3 : Int).toNat = 3:=rfl
 have e1 : (1 : Int).toNat = 1:=rfl
 have e2 : (2 : Int).toNat = 2:=rfl
 have k1:=ex_ok
 have k2:=ex_ok2
 (refine q_H Try.func9 (fun F=>?_); simp only [q_z,q_y,Try.ntmps9,Try.results9])
 repeat' (first|with_reducible refine q_0 ?_|((with_reducible first|refine q_q oet_ok fun K hK=>?_|refine q_r oet_ok fun K hK=>?_);simp (maxSteps:=2000000) only [go_sem,↓reduceIte,reduceCtorEq,Nat.reduceLeDiff,Nat.reduceLT,Nat.reduceBEq,Nat.reduceAdd,e3,ex_start,ex_tell,ex_i,ex_j,ex_i2,ex_j2];(repeat1' with_reducible first|apply And.intro|(intro _;try exact q_v)|(refine hK _ ?_;clear hK K))<;>(try (clear hK K;exact q_u)))|(with_reducible refine q_s ?_;(first|apply q_J|apply q_K|apply q_L|apply q_M|apply q_N|apply q_O)<;>try (intro _;try exact q_v)))
 all_goals first | omega | exact k1.1 | exact k1.2 | exact k2.1 | exact k2.2 | exact q_A rfl
def sortsCT : CT:=mkCT [] true fun l K=>match l with
 | []=>K (.c (.b true))
 | _=>False
def oc6 : Cfg:=addT 9 sortsCT cf0
theorem oc6_ok : TblOk Try.prog oc6:=q_I cf0_ok Try.func9 fun l K h=>by
 split at h
 ·exact ⟨_,sorts_ret.plain rfl,h⟩
 ·exact h.elim
attribute [go_sem] sortsCT
end Go.Proofs.Ytmcjojbffidlbaa

namespace Go.Proofs.Ytmcjojbffidlbaa
set_option linter.unusedSimpArgs false
set_option linter.unusedVariables false

def scanO (xs : List Int) : Nat → Nat → Option (Int × Nat)
 | _,0=>none
 | k,j + 1=>if xs.getD k 0 < 0 ∨ (xs.length : Int) ≤ xs.getD k 0 then some (4,k) else if xs.getD k 0 ∈ xs.take k then some (8,k) else scanO xs (k + 1) j
def badO (xs : List Int) : Option (Int × Nat):=scanO xs 0 xs.length
theorem scanO_out {xs : List Int} {k : Nat} (hk : k < xs.length) (h : xs.getD k 0 < 0 ∨ (xs.length : Int) ≤ xs.getD k 0) : scanO xs k (xs.length - k) = some (4,k):=by
 obtain ⟨j,hj⟩ : ∃ j,xs.length - k = j + 1:=⟨xs.length - k - 1,by omega⟩
 rw [hj]; simp only [scanO]; rw [if_pos h]
theorem scanO_twice {xs : List Int} {k : Nat} (hk : k < xs.length) (h : ¬ (xs.getD k 0 < 0 ∨ (xs.length : Int) ≤ xs.getD k 0)) (h2 : xs.getD k 0 ∈ xs.take k) : scanO xs k (xs.length - k) = some (8,k):=by
 obtain ⟨j,hj⟩ : ∃ j,xs.length - k = j + 1:=⟨xs.length - k - 1,by omega⟩
 rw [hj]; simp only [scanO]; rw [if_neg h,if_pos h2]
theorem scanO_next {xs : List Int} {k : Nat} (hk : k < xs.length) (h : ¬ (xs.getD k 0 < 0 ∨ (xs.length : Int) ≤ xs.getD k 0)) (h2 : xs.getD k 0 ∉ xs.take k) : scanO xs k (xs.length - k) = scanO xs (k + 1) (xs.length - (k + 1)):=by
 obtain ⟨j,hj⟩ : ∃ j,xs.length - k = j + 1:=⟨xs.length - k - 1,by omega⟩
 have : xs.length - (k + 1) = j:=by omega
 rw [hj,this]; simp only [scanO]; rw [if_neg h,if_neg h2]
theorem scanO_some {xs : List Int} : ∀ (j k : Nat) {c : Int} {i : Nat},scanO xs k j = some (c,i) → (c = 4 ∨ c = 8) ∧ k ≤ i ∧ i < k + j
 | 0,k,c,i,h=>by simp [scanO] at h
 | j + 1,k,c,i,h=>by
  simp only [scanO] at h
  split at h
  ·cases h; exact ⟨.inl rfl,by omega,by omega⟩
  ·split at h
   ·cases h; exact ⟨.inr rfl,by omega,by omega⟩
   ·obtain ⟨h1,h2,h3⟩:=scanO_some j (k + 1) h
    exact ⟨h1,by omega,by omega⟩
structure Good (xs : List Int) : Prop where
 lo : ∀ k,k < xs.length → 0 ≤ xs.getD k 0 ∧ xs.getD k 0 < (xs.length : Int)
 once : ∀ i k,i < k → k < xs.length → xs.getD i 0 ≠ xs.getD k 0
theorem mem_take_getD {xs : List Int} {k : Nat} {x : Int} (hk : k ≤ xs.length) : x ∈ xs.take k ↔ ∃ i,i < k ∧ xs.getD i 0 = x:=by
 constructor
 ·intro h
  obtain ⟨i,hi⟩:=List.getElem?_of_mem h
  have hlt:=(List.getElem?_eq_some_iff.1 hi).1
  rw [List.length_take] at hlt
  rw [List.getElem?_take,if_pos (by omega)] at hi
  exact ⟨i,by omega,by rw [List.getD_eq_getElem?_getD,hi]; rfl⟩
 ·rintro ⟨i,hi,rfl⟩
  have : (xs.take k)[i]? = some (xs.getD i 0):=by
   rw [List.getElem?_take,if_pos hi,List.getD_eq_getElem?_getD,List.getElem?_eq_getElem (show i < xs.length by omega)]; rfl
  exact List.mem_of_getElem? this
theorem scanO_none {xs : List Int} : ∀ (j k : Nat),k + j = xs.length → scanO xs k j = none → ∀ i,k ≤ i → i < xs.length → (0 ≤ xs.getD i 0 ∧ xs.getD i 0 < (xs.length : Int)) ∧ xs.getD i 0 ∉ xs.take i
 | 0,k,h,h1,i,h2,h3=>by omega
 | j + 1,k,h,h1,i,h2,h3=>by
  simp only [scanO] at h1
  split at h1
  ·cases h1
  ·rename_i ha
   split at h1
   ·cases h1
   ·rename_i hb
    rcases Nat.lt_or_ge k i with hlt | hge
    ·exact scanO_none j (k + 1) (by omega) h1 i (by omega) h3
    ·have : i = k:=by omega
     subst this
     exact ⟨by omega,hb⟩
theorem scanO_good {xs : List Int} (h : Good xs) : ∀ (j k : Nat),k + j = xs.length → scanO xs k j = none
 | 0,k,_=>rfl
 | j + 1,k,hk=>by
  have:=h.lo k (by omega)
  simp only [scanO]
  rw [if_neg (by omega),if_neg,scanO_good h j (k + 1) (by omega)]
  rw [mem_take_getD (by omega)]
  rintro ⟨i,hi,he⟩
  exact h.once i k hi (by omega) he
theorem good_of {xs : List Int} (h : badO xs = none) : Good xs:=by
 have hn:=scanO_none xs.length 0 (by omega) h
 refine ⟨fun k hk=>(hn k (by omega) hk).1,fun i k hi hk he=>(hn k (by omega) hk).2 ?_⟩
 exact (mem_take_getD (by omega)).2 ⟨i,hi,he⟩
theorem bad_good {xs : List Int} (h : Good xs) : badO xs = none:=scanO_good h _ _ (by omega)
def invL (xs : List Int) : Nat → List Int
 | 0=>List.replicate xs.length 0
 | k + 1=>(invL xs k).set (xs.getD k 0).toNat (k : Int)
theorem invL_len (xs : List Int) : ∀ k,(invL xs k).length = xs.length
 | 0=>by simp [invL]
 | k + 1=>by simp [invL,invL_len xs k]
def permL (l order : List Int) : List Int:=order.map fun i=>l.getD i.toNat 0
theorem permL_len (l order : List Int) : (permL l order).length = order.length:=by simp [permL]
end Go.Proofs.Ytmcjojbffidlbaa
