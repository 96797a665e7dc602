/-
  A part of the proof: lemmas on which the theorem leans; nothing is claimed here by itself.
-/
import Derived.Test.YtgofdjfokfgnhaaGreatDoorFw
import Derived.Test.YtgofdjfokfgnhaaGreatDoorProg
namespace Go.Fw
open Go Go.Proofs
theorem sz1 : sizeT Tryz.prog 1 = some 1 := by kernel_rfl
theorem zt1 : zeroT Tryz.prog 1 = some #[.nilFunc] := by kernel_rfl
theorem by2 : bytesT Tryz.prog 2 = some 8 := by kernel_rfl
theorem ag3 : aggT Tryz.prog 3 = some false := by kernel_rfl
theorem it3 : intT Tryz.prog 3 = some .i64 := by kernel_rfl
theorem sz4 : sizeT Tryz.prog 4 = some 1 := by kernel_rfl
theorem cc4 : concT Tryz.prog 4 = true := by kernel_rfl
theorem kn5 : knownT Tryz.prog 5 = true := by kernel_rfl
theorem cc5 : concT Tryz.prog 5 = true := by kernel_rfl
theorem kn6 : knownT Tryz.prog 6 = true := by kernel_rfl
theorem cc6 : concT Tryz.prog 6 = true := by kernel_rfl
theorem kn7 : knownT Tryz.prog 7 = true := by kernel_rfl
theorem fo7_0 : fOff Tryz.prog 7 0 = some 0 := by kernel_rfl
theorem fo7_2 : fOff Tryz.prog 7 2 = some 2 := by kernel_rfl
theorem zt7 : zeroT Tryz.prog 7 = some #[.int .i64 0, .int .i64 0, .bool false, .int .u8 0] := by kernel_rfl
theorem by8 : bytesT Tryz.prog 8 = some 24 := by kernel_rfl
theorem pl8_0 : placeT Tryz.prog 8 0 = some (0, 1) := by kernel_rfl
theorem pl8_2 : placeT Tryz.prog 8 2 = some (2, 1) := by kernel_rfl
theorem ag9 : aggT Tryz.prog 9 = some false := by kernel_rfl
theorem ni9 : notInt Tryz.prog 9 = true := by kernel_rfl
theorem ag10 : aggT Tryz.prog 10 = some false := by kernel_rfl
theorem ni10 : notInt Tryz.prog 10 = true := by kernel_rfl
theorem ag11 : aggT Tryz.prog 11 = some false := by kernel_rfl
theorem ni11 : notInt Tryz.prog 11 = true := by kernel_rfl
theorem ag12 : aggT Tryz.prog 12 = some false := by kernel_rfl
theorem it12 : intT Tryz.prog 12 = some .u64 := by kernel_rfl
theorem sz13 : sizeT Tryz.prog 13 = some 2 := by kernel_rfl
theorem fk13 : fieldsOkT Tryz.prog 13 = true := by kernel_rfl
theorem pl13_1 : placeT Tryz.prog 13 1 = some (1, 1) := by kernel_rfl
theorem kn14 : knownT Tryz.prog 14 = true := by kernel_rfl
theorem fo14_0 : fOff Tryz.prog 14 0 = some 0 := by kernel_rfl
theorem zt14 : zeroT Tryz.prog 14 = some #[.string ByteArray.empty, .int .u64 0] := by kernel_rfl
theorem by15 : bytesT Tryz.prog 15 = some 8 := by kernel_rfl
theorem ag16 : aggT Tryz.prog 16 = some false := by kernel_rfl
theorem pt16 : ptrT Tryz.prog 16 = true := by kernel_rfl
theorem sz17 : sizeT Tryz.prog 17 = some 1 := by kernel_rfl
theorem cc17 : concT Tryz.prog 17 = true := by kernel_rfl
theorem kn18 : knownT Tryz.prog 18 = true := by kernel_rfl
theorem fo18_0 : fOff Tryz.prog 18 0 = some 0 := by kernel_rfl
theorem sz19 : sizeT Tryz.prog 19 = some 1 := by kernel_rfl
theorem fk19 : fieldsOkT Tryz.prog 19 = true := by kernel_rfl
theorem ag20 : aggT Tryz.prog 20 = some false := by kernel_rfl
theorem zt20 : zeroT Tryz.prog 20 = some #[.nilIface] := by kernel_rfl
theorem by21 : bytesT Tryz.prog 21 = some 4 := by kernel_rfl
theorem ag22 : aggT Tryz.prog 22 = some false := by kernel_rfl
theorem it22 : intT Tryz.prog 22 = some .i64 := by kernel_rfl
theorem sz23 : sizeT Tryz.prog 23 = some 1 := by kernel_rfl
theorem sl23 : slT Tryz.prog 23 = some 31 := by kernel_rfl
theorem zt23 : zeroT Tryz.prog 23 = some #[.slice none 0 0] := by kernel_rfl
theorem by24 : bytesT Tryz.prog 24 = some 24 := by kernel_rfl
theorem se24 : slE Tryz.prog 24 = some 1 := by kernel_rfl
theorem sz25 : sizeT Tryz.prog 25 = some 5 := by kernel_rfl
theorem fk25 : fieldsOkT Tryz.prog 25 = true := by kernel_rfl
theorem pl25_1 : placeT Tryz.prog 25 1 = some (1, 1) := by kernel_rfl
theorem pl25_3 : placeT Tryz.prog 25 3 = some (3, 1) := by kernel_rfl
theorem ag26 : aggT Tryz.prog 26 = some true := by kernel_rfl
theorem cc26 : concT Tryz.prog 26 = true := by kernel_rfl
theorem fo26_1 : fOff Tryz.prog 26 1 = some 1 := by kernel_rfl
theorem fo26_3 : fOff Tryz.prog 26 3 = some 3 := by kernel_rfl
theorem zt26 : zeroT Tryz.prog 26 = some #[.int .i64 0, .int .i64 0, .string ByteArray.empty, .slice none 0 0, .slice none 0 0] := by kernel_rfl
theorem by27 : bytesT Tryz.prog 27 = some 8 := by kernel_rfl
theorem sz28 : sizeT Tryz.prog 28 = some 1 := by kernel_rfl
theorem zt28 : zeroT Tryz.prog 28 = some #[.nilFunc] := by kernel_rfl
theorem by29 : bytesT Tryz.prog 29 = some 8 := by kernel_rfl
theorem sz30 : sizeT Tryz.prog 30 = some 3 := by kernel_rfl
theorem fk30 : fieldsOkT Tryz.prog 30 = true := by kernel_rfl
theorem pl30_1 : placeT Tryz.prog 30 1 = some (1, 1) := by kernel_rfl
theorem ag31 : aggT Tryz.prog 31 = some true := by kernel_rfl
theorem cc31 : concT Tryz.prog 31 = true := by kernel_rfl
theorem fo31_1 : fOff Tryz.prog 31 1 = some 1 := by kernel_rfl
theorem zt31 : zeroT Tryz.prog 31 = some #[.int .i64 0, .string ByteArray.empty, .string ByteArray.empty] := by kernel_rfl
theorem by32 : bytesT Tryz.prog 32 = some 8 := by kernel_rfl
theorem sz33 : sizeT Tryz.prog 33 = some 1 := by kernel_rfl
theorem zt33 : zeroT Tryz.prog 33 = some #[.nilFunc] := by kernel_rfl
theorem by34 : bytesT Tryz.prog 34 = some 8 := by kernel_rfl
theorem sz35 : sizeT Tryz.prog 35 = some 1 := by kernel_rfl
theorem zt35 : zeroT Tryz.prog 35 = some #[.nilFunc] := by kernel_rfl
theorem by36 : bytesT Tryz.prog 36 = some 24 := by kernel_rfl
theorem se36 : slE Tryz.prog 36 = some 12 := by kernel_rfl
theorem sz37 : sizeT Tryz.prog 37 = some 1 := by kernel_rfl
theorem zt37 : zeroT Tryz.prog 37 = some #[.nilFunc] := by kernel_rfl
theorem by38 : bytesT Tryz.prog 38 = some 8 := by kernel_rfl
theorem ag39 : aggT Tryz.prog 39 = some false := by kernel_rfl
theorem cc39 : concT Tryz.prog 39 = true := by kernel_rfl
theorem kn40 : knownT Tryz.prog 40 = true := by kernel_rfl
theorem zt40 : zeroT Tryz.prog 40 = some #[.pointer none] := by kernel_rfl
theorem by41 : bytesT Tryz.prog 41 = some 24 := by kernel_rfl
theorem se41 : slE Tryz.prog 41 = some 1 := by kernel_rfl
theorem sz42 : sizeT Tryz.prog 42 = some 4 := by kernel_rfl
theorem cc42 : concT Tryz.prog 42 = true := by kernel_rfl
theorem sz43 : sizeT Tryz.prog 43 = some 4 := by kernel_rfl
theorem fk43 : fieldsOkT Tryz.prog 43 = true := by kernel_rfl
theorem ag44 : aggT Tryz.prog 44 = some true := by kernel_rfl
theorem cc44 : concT Tryz.prog 44 = true := by kernel_rfl
theorem zt44 : zeroT Tryz.prog 44 = some #[.slice none 0 0, .slice none 0 0, .slice none 0 0, .slice none 0 0] := by kernel_rfl
theorem by45 : bytesT Tryz.prog 45 = some 24 := by kernel_rfl
theorem pl45_0 : placeT Tryz.prog 45 0 = some (0, 1) := by kernel_rfl
theorem kn46 : knownT Tryz.prog 46 = true := by kernel_rfl
theorem fo46_0 : fOff Tryz.prog 46 0 = some 0 := by kernel_rfl
theorem sz47 : sizeT Tryz.prog 47 = some 1 := by kernel_rfl
theorem cc47 : concT Tryz.prog 47 = true := by kernel_rfl
theorem kn48 : knownT Tryz.prog 48 = true := by kernel_rfl
theorem fo48_0 : fOff Tryz.prog 48 0 = some 0 := by kernel_rfl
theorem fo48_2 : fOff Tryz.prog 48 2 = some 2 := by kernel_rfl
theorem fo48_4 : fOff Tryz.prog 48 4 = some 6 := by kernel_rfl
theorem fo48_6 : fOff Tryz.prog 48 6 = some 8 := by kernel_rfl
theorem zt48 : zeroT Tryz.prog 48 = some #[.int .i64 0, .int .i64 0, .int .i64 0, .int .i64 0, .string ByteArray.empty, .string ByteArray.empty, .string ByteArray.empty, .int .i64 0, .int .u64 0, .slice none 0 0] := by kernel_rfl
theorem by49 : bytesT Tryz.prog 49 = some 120 := by kernel_rfl
theorem pl49_0 : placeT Tryz.prog 49 0 = some (0, 1) := by kernel_rfl
theorem pl49_2 : placeT Tryz.prog 49 2 = some (2, 1) := by kernel_rfl
theorem pl49_4 : placeT Tryz.prog 49 4 = some (6, 1) := by kernel_rfl
theorem pl49_6 : placeT Tryz.prog 49 6 = some (8, 1) := by kernel_rfl
theorem ag50 : aggT Tryz.prog 50 = some true := by kernel_rfl
theorem cc50 : concT Tryz.prog 50 = true := by kernel_rfl
theorem fo50_1 : fOff Tryz.prog 50 1 = some 10 := by kernel_rfl
theorem zt50 : zeroT Tryz.prog 50 = some #[.int .i64 0, .int .i64 0, .int .i64 0, .int .i64 0, .string ByteArray.empty, .string ByteArray.empty, .string ByteArray.empty, .int .i64 0, .int .u64 0, .slice none 0 0, .int .i64 0, .bool false] := by kernel_rfl
theorem by51 : bytesT Tryz.prog 51 = some 136 := by kernel_rfl
theorem pl51_0 : placeT Tryz.prog 51 0 = some (0, 10) := by kernel_rfl
theorem pl51_2 : placeT Tryz.prog 51 2 = some (11, 1) := by kernel_rfl
theorem kn52 : knownT Tryz.prog 52 = true := by kernel_rfl
theorem ag53 : aggT Tryz.prog 53 = some false := by kernel_rfl
theorem cc53 : concT Tryz.prog 53 = true := by kernel_rfl
theorem kn54 : knownT Tryz.prog 54 = true := by kernel_rfl
theorem ag55 : aggT Tryz.prog 55 = some false := by kernel_rfl
theorem cc55 : concT Tryz.prog 55 = true := by kernel_rfl
theorem kn56 : knownT Tryz.prog 56 = true := by kernel_rfl
theorem ag57 : aggT Tryz.prog 57 = some false := by kernel_rfl
theorem cc57 : concT Tryz.prog 57 = true := by kernel_rfl
theorem kn58 : knownT Tryz.prog 58 = true := by kernel_rfl
theorem ag59 : aggT Tryz.prog 59 = some false := by kernel_rfl
theorem ni59 : notInt Tryz.prog 59 = true := by kernel_rfl
theorem cc59 : concT Tryz.prog 59 = true := by kernel_rfl
theorem kn60 : knownT Tryz.prog 60 = true := by kernel_rfl
theorem ag61 : aggT Tryz.prog 61 = some false := by kernel_rfl
theorem cc61 : concT Tryz.prog 61 = true := by kernel_rfl
theorem kn62 : knownT Tryz.prog 62 = true := by kernel_rfl
theorem zt62 : zeroT Tryz.prog 62 = some #[.int .i64 0] := by kernel_rfl
theorem by63 : bytesT Tryz.prog 63 = some 16 := by kernel_rfl
theorem zt63 : zeroT Tryz.prog 63 = some #[.string ByteArray.empty] := by kernel_rfl
theorem by64 : bytesT Tryz.prog 64 = some 24 := by kernel_rfl
theorem se64 : slE Tryz.prog 64 = some 1 := by kernel_rfl
theorem sz65 : sizeT Tryz.prog 65 = some 3 := by kernel_rfl
theorem fk65 : fieldsOkT Tryz.prog 65 = true := by kernel_rfl
theorem pl65_1 : placeT Tryz.prog 65 1 = some (1, 1) := by kernel_rfl
theorem ag66 : aggT Tryz.prog 66 = some false := by kernel_rfl
theorem zt66 : zeroT Tryz.prog 66 = some #[.nilIface] := by kernel_rfl
theorem by67 : bytesT Tryz.prog 67 = some 16 := by kernel_rfl
theorem kn70 : knownT Tryz.prog 70 = true := by kernel_rfl
theorem ag71 : aggT Tryz.prog 71 = some false := by kernel_rfl
theorem pt71 : ptrT Tryz.prog 71 = true := by kernel_rfl
theorem sz72 : sizeT Tryz.prog 72 = some 1 := by kernel_rfl
theorem zt72 : zeroT Tryz.prog 72 = some #[.nilFunc] := by kernel_rfl
theorem by73 : bytesT Tryz.prog 73 = some 8 := by kernel_rfl
theorem ag74 : aggT Tryz.prog 74 = some false := by kernel_rfl
theorem pt74 : ptrT Tryz.prog 74 = true := by kernel_rfl
theorem sz75 : sizeT Tryz.prog 75 = some 2 := by kernel_rfl
theorem fk75 : fieldsOkT Tryz.prog 75 = true := by kernel_rfl
theorem pl75_1 : placeT Tryz.prog 75 1 = some (1, 1) := by kernel_rfl
theorem kn76 : knownT Tryz.prog 76 = true := by kernel_rfl
theorem fo76_0 : fOff Tryz.prog 76 0 = some 0 := by kernel_rfl
theorem zt76 : zeroT Tryz.prog 76 = some #[.int .i64 0, .int .u64 0] := by kernel_rfl
theorem by77 : bytesT Tryz.prog 77 = some 40 := by kernel_rfl
theorem pl77_0 : placeT Tryz.prog 77 0 = some (0, 1) := by kernel_rfl
theorem pl77_2 : placeT Tryz.prog 77 2 = some (2, 2) := by kernel_rfl
theorem ag78 : aggT Tryz.prog 78 = some true := by kernel_rfl
theorem cc78 : concT Tryz.prog 78 = true := by kernel_rfl
theorem fo78_1 : fOff Tryz.prog 78 1 = some 1 := by kernel_rfl
theorem fo78_3 : fOff Tryz.prog 78 3 = some 4 := by kernel_rfl
theorem sz79 : sizeT Tryz.prog 79 = some 20 := by kernel_rfl
theorem cc79 : concT Tryz.prog 79 = true := by kernel_rfl
theorem sz80 : sizeT Tryz.prog 80 = some 22 := by kernel_rfl
theorem fk80 : fieldsOkT Tryz.prog 80 = true := by kernel_rfl
theorem pl80_1 : placeT Tryz.prog 80 1 = some (1, 20) := by kernel_rfl
theorem ag81 : aggT Tryz.prog 81 = some true := by kernel_rfl
theorem cc81 : concT Tryz.prog 81 = true := by kernel_rfl
theorem fo81_1 : fOff Tryz.prog 81 1 = some 1 := by kernel_rfl
theorem zt81 : zeroT Tryz.prog 81 = some #[.pointer none, .pointer none, .pointer none, .int .i64 0, .int .u64 0, .bool false, .pointer none, .pointer none, .int .i64 0, .int .u64 0, .bool false, .pointer none, .pointer none, .int .i64 0, .int .u64 0, .bool false, .pointer none, .pointer none, .int .i64 0, .int .u64 0, .bool false, .int .i64 0] := by kernel_rfl
theorem by82 : bytesT Tryz.prog 82 = some 8 := by kernel_rfl
theorem ag83 : aggT Tryz.prog 83 = some false := by kernel_rfl
theorem cc83 : concT Tryz.prog 83 = true := by kernel_rfl
theorem kn84 : knownT Tryz.prog 84 = true := by kernel_rfl
theorem ag85 : aggT Tryz.prog 85 = some false := by kernel_rfl
theorem cc85 : concT Tryz.prog 85 = true := by kernel_rfl
theorem kn86 : knownT Tryz.prog 86 = true := by kernel_rfl
theorem ag87 : aggT Tryz.prog 87 = some false := by kernel_rfl
theorem pt87 : ptrT Tryz.prog 87 = true := by kernel_rfl
theorem sz88 : sizeT Tryz.prog 88 = some 1 := by kernel_rfl
theorem zt88 : zeroT Tryz.prog 88 = some #[.nilFunc] := by kernel_rfl
theorem by89 : bytesT Tryz.prog 89 = some 8 := by kernel_rfl
theorem ag90 : aggT Tryz.prog 90 = some true := by kernel_rfl
theorem cc90 : concT Tryz.prog 90 = true := by kernel_rfl
theorem fo90_1 : fOff Tryz.prog 90 1 = some 1 := by kernel_rfl
theorem sz91 : sizeT Tryz.prog 91 = some 2 := by kernel_rfl
theorem fk91 : fieldsOkT Tryz.prog 91 = true := by kernel_rfl
theorem pl91_1 : placeT Tryz.prog 91 1 = some (1, 1) := by kernel_rfl
theorem kn92 : knownT Tryz.prog 92 = true := by kernel_rfl
theorem sz93 : sizeT Tryz.prog 93 = some 1 := by kernel_rfl
theorem ag95 : aggT Tryz.prog 95 = some false := by kernel_rfl
theorem cc95 : concT Tryz.prog 95 = true := by kernel_rfl
theorem kn96 : knownT Tryz.prog 96 = true := by kernel_rfl
theorem ag97 : aggT Tryz.prog 97 = some false := by kernel_rfl
theorem cc97 : concT Tryz.prog 97 = true := by kernel_rfl
theorem kn98 : knownT Tryz.prog 98 = true := by kernel_rfl
theorem zt98 : zeroT Tryz.prog 98 = some #[.pointer none] := by kernel_rfl
theorem by99 : bytesT Tryz.prog 99 = some 8 := by kernel_rfl
theorem sz100 : sizeT Tryz.prog 100 = some 1 := by kernel_rfl
theorem zt100 : zeroT Tryz.prog 100 = some #[.nilFunc] := by kernel_rfl
theorem by101 : bytesT Tryz.prog 101 = some 8 := by kernel_rfl
theorem sz102 : sizeT Tryz.prog 102 = some 1 := by kernel_rfl
theorem sl102 : slT Tryz.prog 102 = some 145 := by kernel_rfl
theorem zt102 : zeroT Tryz.prog 102 = some #[.slice none 0 0] := by kernel_rfl
theorem by103 : bytesT Tryz.prog 103 = some 24 := by kernel_rfl
theorem se103 : slE Tryz.prog 103 = some 3 := by kernel_rfl
theorem sz104 : sizeT Tryz.prog 104 = some 4 := by kernel_rfl
theorem fk104 : fieldsOkT Tryz.prog 104 = true := by kernel_rfl
theorem pl104_1 : placeT Tryz.prog 104 1 = some (1, 1) := by kernel_rfl
theorem pl104_3 : placeT Tryz.prog 104 3 = some (3, 1) := by kernel_rfl
theorem kn105 : knownT Tryz.prog 105 = true := by kernel_rfl
theorem fo105_0 : fOff Tryz.prog 105 0 = some 0 := by kernel_rfl
theorem fo105_2 : fOff Tryz.prog 105 2 = some 2 := by kernel_rfl
theorem zt105 : zeroT Tryz.prog 105 = some #[.int .i64 0, .slice none 0 0, .slice none 0 0, .int .i64 0] := by kernel_rfl
theorem by106 : bytesT Tryz.prog 106 = some 8 := by kernel_rfl
theorem sz107 : sizeT Tryz.prog 107 = some 1 := by kernel_rfl
theorem zt107 : zeroT Tryz.prog 107 = some #[.nilFunc] := by kernel_rfl
theorem by108 : bytesT Tryz.prog 108 = some 24 := by kernel_rfl
theorem se108 : slE Tryz.prog 108 = some 65 := by kernel_rfl
theorem sz109 : sizeT Tryz.prog 109 = some 3 := by kernel_rfl
theorem fk109 : fieldsOkT Tryz.prog 109 = true := by kernel_rfl
theorem pl109_1 : placeT Tryz.prog 109 1 = some (1, 1) := by kernel_rfl
theorem ag110 : aggT Tryz.prog 110 = some true := by kernel_rfl
theorem cc110 : concT Tryz.prog 110 = true := by kernel_rfl
theorem fo110_1 : fOff Tryz.prog 110 1 = some 1 := by kernel_rfl
theorem zt110 : zeroT Tryz.prog 110 = some #[.slice none 0 0, .bool false, .int .i64 0] := by kernel_rfl
theorem by111 : bytesT Tryz.prog 111 = some 8 := by kernel_rfl
theorem sz112 : sizeT Tryz.prog 112 = some 1 := by kernel_rfl
theorem zt112 : zeroT Tryz.prog 112 = some #[.nilFunc] := by kernel_rfl
theorem by114 : bytesT Tryz.prog 114 = some 8 := by kernel_rfl
theorem sz115 : sizeT Tryz.prog 115 = some 1 := by kernel_rfl
theorem zt115 : zeroT Tryz.prog 115 = some #[.nilFunc] := by kernel_rfl
theorem by116 : bytesT Tryz.prog 116 = some 8 := by kernel_rfl
theorem ag117 : aggT Tryz.prog 117 = some false := by kernel_rfl
theorem pt117 : ptrT Tryz.prog 117 = true := by kernel_rfl
theorem sz118 : sizeT Tryz.prog 118 = some 4 := by kernel_rfl
theorem cc118 : concT Tryz.prog 118 = true := by kernel_rfl
theorem sz119 : sizeT Tryz.prog 119 = some 4 := by kernel_rfl
theorem fk119 : fieldsOkT Tryz.prog 119 = true := by kernel_rfl
theorem ag120 : aggT Tryz.prog 120 = some true := by kernel_rfl
theorem cc120 : concT Tryz.prog 120 = true := by kernel_rfl
theorem zt120 : zeroT Tryz.prog 120 = some #[.pointer none, .pointer none, .pointer none, .pointer none] := by kernel_rfl
theorem by121 : bytesT Tryz.prog 121 = some 8 := by kernel_rfl
theorem ag122 : aggT Tryz.prog 122 = some false := by kernel_rfl
theorem pt122 : ptrT Tryz.prog 122 = true := by kernel_rfl
theorem sz123 : sizeT Tryz.prog 123 = some 1 := by kernel_rfl
theorem sl123 : slT Tryz.prog 123 = some 158 := by kernel_rfl
theorem zt123 : zeroT Tryz.prog 123 = some #[.slice none 0 0] := by kernel_rfl
theorem by124 : bytesT Tryz.prog 124 = some 24 := by kernel_rfl
theorem pl124_0 : placeT Tryz.prog 124 0 = some (0, 1) := by kernel_rfl
theorem kn125 : knownT Tryz.prog 125 = true := by kernel_rfl
theorem fo125_0 : fOff Tryz.prog 125 0 = some 0 := by kernel_rfl
theorem sz126 : sizeT Tryz.prog 126 = some 9 := by kernel_rfl
theorem fk126 : fieldsOkT Tryz.prog 126 = true := by kernel_rfl
theorem pl126_1 : placeT Tryz.prog 126 1 = some (1, 4) := by kernel_rfl
theorem pl126_3 : placeT Tryz.prog 126 3 = some (6, 1) := by kernel_rfl
theorem pl126_5 : placeT Tryz.prog 126 5 = some (8, 1) := by kernel_rfl
theorem kn127 : knownT Tryz.prog 127 = true := by kernel_rfl
theorem fo127_0 : fOff Tryz.prog 127 0 = some 0 := by kernel_rfl
theorem fo127_2 : fOff Tryz.prog 127 2 = some 5 := by kernel_rfl
theorem fo127_4 : fOff Tryz.prog 127 4 = some 7 := by kernel_rfl
theorem zt127 : zeroT Tryz.prog 127 = some #[.pointer none, .pointer none, .pointer none, .pointer none, .pointer none, .pointer none, .pointer none, .slice none 0 0, .int .i64 0] := by kernel_rfl
theorem by128 : bytesT Tryz.prog 128 = some 8 := by kernel_rfl
theorem sz129 : sizeT Tryz.prog 129 = some 1 := by kernel_rfl
theorem zt129 : zeroT Tryz.prog 129 = some #[.nilFunc] := by kernel_rfl
theorem by130 : bytesT Tryz.prog 130 = some 8 := by kernel_rfl
theorem sz131 : sizeT Tryz.prog 131 = some 1 := by kernel_rfl
theorem zt131 : zeroT Tryz.prog 131 = some #[.nilFunc] := by kernel_rfl
theorem by132 : bytesT Tryz.prog 132 = some 8 := by kernel_rfl
theorem ag133 : aggT Tryz.prog 133 = some true := by kernel_rfl
theorem cc133 : concT Tryz.prog 133 = true := by kernel_rfl
theorem fo133_1 : fOff Tryz.prog 133 1 = some 1 := by kernel_rfl
theorem sz134 : sizeT Tryz.prog 134 = some 2 := by kernel_rfl
theorem fk134 : fieldsOkT Tryz.prog 134 = true := by kernel_rfl
theorem pl134_1 : placeT Tryz.prog 134 1 = some (1, 1) := by kernel_rfl
theorem kn135 : knownT Tryz.prog 135 = true := by kernel_rfl
theorem ag136 : aggT Tryz.prog 136 = some false := by kernel_rfl
theorem it136 : intT Tryz.prog 136 = some .u64 := by kernel_rfl
theorem sz137 : sizeT Tryz.prog 137 = some 1 := by kernel_rfl
theorem zt137 : zeroT Tryz.prog 137 = some #[.nilFunc] := by kernel_rfl
theorem by139 : bytesT Tryz.prog 139 = some 8 := by kernel_rfl
theorem sz141 : sizeT Tryz.prog 141 = some 1 := by kernel_rfl
theorem zt141 : zeroT Tryz.prog 141 = some #[.nilFunc] := by kernel_rfl
theorem by142 : bytesT Tryz.prog 142 = some 8 := by kernel_rfl
theorem sz143 : sizeT Tryz.prog 143 = some 1 := by kernel_rfl
theorem zt143 : zeroT Tryz.prog 143 = some #[.nilFunc] := by kernel_rfl
theorem by144 : bytesT Tryz.prog 144 = some 8 := by kernel_rfl
theorem ag145 : aggT Tryz.prog 145 = some true := by kernel_rfl
theorem ar145 : arN Tryz.prog 145 = some (64, 1) := by kernel_rfl
theorem ag146 : aggT Tryz.prog 146 = some true := by kernel_rfl
theorem cc146 : concT Tryz.prog 146 = true := by kernel_rfl
theorem fo146_1 : fOff Tryz.prog 146 1 = some 1 := by kernel_rfl
theorem sz147 : sizeT Tryz.prog 147 = some 65 := by kernel_rfl
theorem fk147 : fieldsOkT Tryz.prog 147 = true := by kernel_rfl
theorem pl147_1 : placeT Tryz.prog 147 1 = some (1, 64) := by kernel_rfl
theorem kn148 : knownT Tryz.prog 148 = true := by kernel_rfl
theorem ag149 : aggT Tryz.prog 149 = some false := by kernel_rfl
theorem cc149 : concT Tryz.prog 149 = true := by kernel_rfl
theorem kn150 : knownT Tryz.prog 150 = true := by kernel_rfl
theorem ag151 : aggT Tryz.prog 151 = some false := by kernel_rfl
theorem it151 : intT Tryz.prog 151 = some .u32 := by kernel_rfl
theorem sz152 : sizeT Tryz.prog 152 = some 1 := by kernel_rfl
theorem zt152 : zeroT Tryz.prog 152 = some #[.nilFunc] := by kernel_rfl
theorem by153 : bytesT Tryz.prog 153 = some 8 := by kernel_rfl
theorem sz154 : sizeT Tryz.prog 154 = some 1 := by kernel_rfl
theorem zt154 : zeroT Tryz.prog 154 = some #[.nilFunc] := by kernel_rfl
theorem by155 : bytesT Tryz.prog 155 = some 8 := by kernel_rfl
theorem ag156 : aggT Tryz.prog 156 = some false := by kernel_rfl
theorem cc156 : concT Tryz.prog 156 = true := by kernel_rfl
theorem kn157 : knownT Tryz.prog 157 = true := by kernel_rfl
theorem fo157_0 : fOff Tryz.prog 157 0 = some 0 := by kernel_rfl
theorem fo157_2 : fOff Tryz.prog 157 2 = some 4 := by kernel_rfl
theorem sz158 : sizeT Tryz.prog 158 = some 5 := by kernel_rfl
theorem fk158 : fieldsOkT Tryz.prog 158 = true := by kernel_rfl
theorem pl158_1 : placeT Tryz.prog 158 1 = some (3, 1) := by kernel_rfl
theorem ag159 : aggT Tryz.prog 159 = some false := by kernel_rfl
theorem mt159 : mapT Tryz.prog 159 = true := by kernel_rfl
theorem sz160 : sizeT Tryz.prog 160 = some 3 := by kernel_rfl
theorem fk160 : fieldsOkT Tryz.prog 160 = true := by kernel_rfl
theorem pl160_1 : placeT Tryz.prog 160 1 = some (1, 1) := by kernel_rfl
theorem ag161 : aggT Tryz.prog 161 = some true := by kernel_rfl
theorem cc161 : concT Tryz.prog 161 = true := by kernel_rfl
theorem fo161_1 : fOff Tryz.prog 161 1 = some 1 := by kernel_rfl
theorem zt161 : zeroT Tryz.prog 161 = some #[.int .i64 0, .int .i64 0, .map none] := by kernel_rfl
theorem by163 : bytesT Tryz.prog 163 = some 8 := by kernel_rfl
theorem sz164 : sizeT Tryz.prog 164 = some 1 := by kernel_rfl
theorem sl164 : slT Tryz.prog 164 = some 47 := by kernel_rfl
theorem zt164 : zeroT Tryz.prog 164 = some #[.slice none 0 0] := by kernel_rfl
theorem by165 : bytesT Tryz.prog 165 = some 8 := by kernel_rfl
theorem sz166 : sizeT Tryz.prog 166 = some 8 := by kernel_rfl
theorem fk166 : fieldsOkT Tryz.prog 166 = true := by kernel_rfl
theorem pl166_1 : placeT Tryz.prog 166 1 = some (1, 1) := by kernel_rfl
theorem pl166_3 : placeT Tryz.prog 166 3 = some (3, 1) := by kernel_rfl
theorem pl166_5 : placeT Tryz.prog 166 5 = some (5, 1) := by kernel_rfl
theorem pl166_7 : placeT Tryz.prog 166 7 = some (7, 1) := by kernel_rfl
theorem kn167 : knownT Tryz.prog 167 = true := by kernel_rfl
theorem fo167_0 : fOff Tryz.prog 167 0 = some 0 := by kernel_rfl
theorem fo167_2 : fOff Tryz.prog 167 2 = some 2 := by kernel_rfl
theorem fo167_4 : fOff Tryz.prog 167 4 = some 4 := by kernel_rfl
theorem fo167_6 : fOff Tryz.prog 167 6 = some 6 := by kernel_rfl
theorem zt167 : zeroT Tryz.prog 167 = some #[.int .i64 0, .int .i64 0, .int .i64 0, .int .i64 0, .string ByteArray.empty, .string ByteArray.empty, .string ByteArray.empty, .slice none 0 0] := by kernel_rfl
theorem by168 : bytesT Tryz.prog 168 = some 24 := by kernel_rfl
theorem se168 : slE Tryz.prog 168 = some 8 := by kernel_rfl
theorem sz169 : sizeT Tryz.prog 169 = some 1 := by kernel_rfl
theorem zt169 : zeroT Tryz.prog 169 = some #[.nilFunc] := by kernel_rfl
theorem by170 : bytesT Tryz.prog 170 = some 24 := by kernel_rfl
theorem se170 : slE Tryz.prog 170 = some 3 := by kernel_rfl
theorem sz171 : sizeT Tryz.prog 171 = some 1 := by kernel_rfl
theorem zt171 : zeroT Tryz.prog 171 = some #[.nilFunc] := by kernel_rfl
theorem by172 : bytesT Tryz.prog 172 = some 32 := by kernel_rfl
theorem pl172_0 : placeT Tryz.prog 172 0 = some (0, 1) := by kernel_rfl
theorem pl172_2 : placeT Tryz.prog 172 2 = some (2, 1) := by kernel_rfl
theorem kn173 : knownT Tryz.prog 173 = true := by kernel_rfl
theorem fo173_0 : fOff Tryz.prog 173 0 = some 0 := by kernel_rfl
theorem fo173_2 : fOff Tryz.prog 173 2 = some 2 := by kernel_rfl
theorem sz174 : sizeT Tryz.prog 174 = some 1 := by kernel_rfl
theorem zt174 : zeroT Tryz.prog 174 = some #[.nilFunc] := by kernel_rfl
theorem by176 : bytesT Tryz.prog 176 = some 8 := by kernel_rfl
theorem sz177 : sizeT Tryz.prog 177 = some 1 := by kernel_rfl
theorem zt177 : zeroT Tryz.prog 177 = some #[.nilFunc] := by kernel_rfl
theorem by178 : bytesT Tryz.prog 178 = some 8 := by kernel_rfl
theorem kn179 : knownT Tryz.prog 179 = true := by kernel_rfl
theorem ag180 : aggT Tryz.prog 180 = some false := by kernel_rfl
theorem cc180 : concT Tryz.prog 180 = true := by kernel_rfl
theorem kn181 : knownT Tryz.prog 181 = true := by kernel_rfl
theorem fk181 : fieldsOkT Tryz.prog 181 = true := by kernel_rfl
theorem kn182 : knownT Tryz.prog 182 = true := by kernel_rfl
theorem ag183 : aggT Tryz.prog 183 = some false := by kernel_rfl
theorem cc183 : concT Tryz.prog 183 = true := by kernel_rfl
theorem kn185 : knownT Tryz.prog 185 = true := by kernel_rfl
theorem ag186 : aggT Tryz.prog 186 = some false := by kernel_rfl
theorem cc186 : concT Tryz.prog 186 = true := by kernel_rfl
theorem kn187 : knownT Tryz.prog 187 = true := by kernel_rfl
theorem si187 : (slT Tryz.prog 187).isSome = true := by kernel_rfl
theorem ag189 : aggT Tryz.prog 189 = some false := by kernel_rfl
theorem cc189 : concT Tryz.prog 189 = true := by kernel_rfl
theorem kn190 : knownT Tryz.prog 190 = true := by kernel_rfl
theorem ag191 : aggT Tryz.prog 191 = some false := by kernel_rfl
theorem cc191 : concT Tryz.prog 191 = true := by kernel_rfl
theorem kn192 : knownT Tryz.prog 192 = true := by kernel_rfl
theorem fk192 : fieldsOkT Tryz.prog 192 = true := by kernel_rfl
theorem kn193 : knownT Tryz.prog 193 = true := by kernel_rfl
theorem fk193 : fieldsOkT Tryz.prog 193 = true := by kernel_rfl
theorem kn194 : knownT Tryz.prog 194 = true := by kernel_rfl
theorem fo194_0 : fOff Tryz.prog 194 0 = some 0 := by kernel_rfl
theorem fo194_2 : fOff Tryz.prog 194 2 = some 5 := by kernel_rfl
theorem sz195 : sizeT Tryz.prog 195 = some 9 := by kernel_rfl
theorem fk195 : fieldsOkT Tryz.prog 195 = true := by kernel_rfl
theorem pl195_1 : placeT Tryz.prog 195 1 = some (1, 4) := by kernel_rfl
theorem ag196 : aggT Tryz.prog 196 = some false := by kernel_rfl
theorem cc196 : concT Tryz.prog 196 = true := by kernel_rfl
theorem kn197 : knownT Tryz.prog 197 = true := by kernel_rfl
theorem fo197_0 : fOff Tryz.prog 197 0 = some 0 := by kernel_rfl
theorem zt197 : zeroT Tryz.prog 197 = some #[.int .u64 0, .int .i64 0, .int .i64 0, .int .i64 0, .int .i64 0, .string ByteArray.empty, .string ByteArray.empty, .string ByteArray.empty, .slice none 0 0] := by kernel_rfl
theorem by198 : bytesT Tryz.prog 198 = some 112 := by kernel_rfl
theorem pl198_0 : placeT Tryz.prog 198 0 = some (0, 1) := by kernel_rfl
theorem ag199 : aggT Tryz.prog 199 = some false := by kernel_rfl
theorem cc199 : concT Tryz.prog 199 = true := by kernel_rfl
theorem kn200 : knownT Tryz.prog 200 = true := by kernel_rfl
theorem ag202 : aggT Tryz.prog 202 = some false := by kernel_rfl
theorem cc202 : concT Tryz.prog 202 = true := by kernel_rfl
theorem kn203 : knownT Tryz.prog 203 = true := by kernel_rfl
theorem ag204 : aggT Tryz.prog 204 = some false := by kernel_rfl
theorem cc204 : concT Tryz.prog 204 = true := by kernel_rfl
theorem kn206 : knownT Tryz.prog 206 = true := by kernel_rfl
theorem ag208 : aggT Tryz.prog 208 = some false := by kernel_rfl
theorem cc208 : concT Tryz.prog 208 = true := by kernel_rfl
theorem kn209 : knownT Tryz.prog 209 = true := by kernel_rfl
theorem ag210 : aggT Tryz.prog 210 = some false := by kernel_rfl
theorem cc210 : concT Tryz.prog 210 = true := by kernel_rfl
theorem kn211 : knownT Tryz.prog 211 = true := by kernel_rfl
theorem ag212 : aggT Tryz.prog 212 = some false := by kernel_rfl
theorem ni212 : notInt Tryz.prog 212 = true := by kernel_rfl
theorem cc212 : concT Tryz.prog 212 = true := by kernel_rfl
theorem kn213 : knownT Tryz.prog 213 = true := by kernel_rfl
theorem ag214 : aggT Tryz.prog 214 = some false := by kernel_rfl
theorem pt214 : ptrT Tryz.prog 214 = true := by kernel_rfl
theorem sz215 : sizeT Tryz.prog 215 = some 1 := by kernel_rfl
theorem zt215 : zeroT Tryz.prog 215 = some #[.nilFunc] := by kernel_rfl
theorem by216 : bytesT Tryz.prog 216 = some 8 := by kernel_rfl
theorem ag217 : aggT Tryz.prog 217 = some false := by kernel_rfl
theorem cc217 : concT Tryz.prog 217 = true := by kernel_rfl
theorem kn218 : knownT Tryz.prog 218 = true := by kernel_rfl
theorem ag219 : aggT Tryz.prog 219 = some false := by kernel_rfl
theorem cc219 : concT Tryz.prog 219 = true := by kernel_rfl
theorem kn220 : knownT Tryz.prog 220 = true := by kernel_rfl
theorem ag221 : aggT Tryz.prog 221 = some true := by kernel_rfl
theorem cc221 : concT Tryz.prog 221 = true := by kernel_rfl
theorem fo221_1 : fOff Tryz.prog 221 1 = some 1 := by kernel_rfl
theorem fo221_3 : fOff Tryz.prog 221 3 = some 3 := by kernel_rfl
theorem fo221_5 : fOff Tryz.prog 221 5 = some 5 := by kernel_rfl
theorem sz222 : sizeT Tryz.prog 222 = some 6 := by kernel_rfl
theorem fk222 : fieldsOkT Tryz.prog 222 = true := by kernel_rfl
theorem pl222_1 : placeT Tryz.prog 222 1 = some (1, 1) := by kernel_rfl
theorem pl222_3 : placeT Tryz.prog 222 3 = some (3, 1) := by kernel_rfl
theorem pl222_5 : placeT Tryz.prog 222 5 = some (5, 1) := by kernel_rfl
theorem kn223 : knownT Tryz.prog 223 = true := by kernel_rfl
theorem zt223 : zeroT Tryz.prog 223 = some #[.pointer none] := by kernel_rfl
theorem by224 : bytesT Tryz.prog 224 = some 24 := by kernel_rfl
theorem pl224_0 : placeT Tryz.prog 224 0 = some (0, 1) := by kernel_rfl
theorem pl224_2 : placeT Tryz.prog 224 2 = some (2, 1) := by kernel_rfl
theorem kn225 : knownT Tryz.prog 225 = true := by kernel_rfl
theorem fo225_0 : fOff Tryz.prog 225 0 = some 0 := by kernel_rfl
theorem fo225_2 : fOff Tryz.prog 225 2 = some 2 := by kernel_rfl
theorem sz226 : sizeT Tryz.prog 226 = some 9 := by kernel_rfl
theorem cc226 : concT Tryz.prog 226 = true := by kernel_rfl
theorem sz227 : sizeT Tryz.prog 227 = some 13 := by kernel_rfl
theorem fk227 : fieldsOkT Tryz.prog 227 = true := by kernel_rfl
theorem pl227_1 : placeT Tryz.prog 227 1 = some (1, 1) := by kernel_rfl
theorem pl227_3 : placeT Tryz.prog 227 3 = some (3, 9) := by kernel_rfl
theorem ag228 : aggT Tryz.prog 228 = some true := by kernel_rfl
theorem cc228 : concT Tryz.prog 228 = true := by kernel_rfl
theorem fo228_1 : fOff Tryz.prog 228 1 = some 1 := by kernel_rfl
theorem fo228_3 : fOff Tryz.prog 228 3 = some 3 := by kernel_rfl
theorem zt228 : zeroT Tryz.prog 228 = some #[.pointer none, .int .i64 0, .pointer none, .pointer none, .int .u64 0, .bool false, .pointer none, .int .u64 0, .bool false, .pointer none, .int .u64 0, .bool false, .int .i64 0] := by kernel_rfl
theorem by229 : bytesT Tryz.prog 229 = some 40 := by kernel_rfl
theorem zt229 : zeroT Tryz.prog 229 = some #[.int .u8 0, .int .u8 0, .int .u8 0, .int .u8 0, .int .u8 0, .int .u8 0, .int .u8 0, .int .u8 0, .int .u8 0, .int .u8 0, .int .u8 0, .int .u8 0, .int .u8 0, .int .u8 0, .int .u8 0, .int .u8 0, .int .u8 0, .int .u8 0, .int .u8 0, .int .u8 0, .int .u8 0, .int .u8 0, .int .u8 0, .int .u8 0, .int .u8 0, .int .u8 0, .int .u8 0, .int .u8 0, .int .u8 0, .int .u8 0, .int .u8 0, .int .u8 0, .int .u8 0, .int .u8 0, .int .u8 0, .int .u8 0, .int .u8 0, .int .u8 0, .int .u8 0, .int .u8 0] := by kernel_rfl
theorem by230 : bytesT Tryz.prog 230 = some 200 := by kernel_rfl
theorem ag231 : aggT Tryz.prog 231 = some true := by kernel_rfl
theorem cc231 : concT Tryz.prog 231 = true := by kernel_rfl
theorem fo231_1 : fOff Tryz.prog 231 1 = some 1 := by kernel_rfl
theorem fo231_3 : fOff Tryz.prog 231 3 = some 3 := by kernel_rfl
theorem sz232 : sizeT Tryz.prog 232 = some 203 := by kernel_rfl
theorem fk232 : fieldsOkT Tryz.prog 232 = true := by kernel_rfl
theorem pl232_1 : placeT Tryz.prog 232 1 = some (1, 1) := by kernel_rfl
theorem pl232_3 : placeT Tryz.prog 232 3 = some (3, 200) := by kernel_rfl
theorem kn233 : knownT Tryz.prog 233 = true := by kernel_rfl
theorem ag234 : aggT Tryz.prog 234 = some false := by kernel_rfl
theorem cc234 : concT Tryz.prog 234 = true := by kernel_rfl
theorem kn235 : knownT Tryz.prog 235 = true := by kernel_rfl
theorem fo235_0 : fOff Tryz.prog 235 0 = some 0 := by kernel_rfl
theorem fo235_2 : fOff Tryz.prog 235 2 = some 2 := by kernel_rfl
theorem sz236 : sizeT Tryz.prog 236 = some 3 := by kernel_rfl
theorem fk236 : fieldsOkT Tryz.prog 236 = true := by kernel_rfl
theorem pl236_1 : placeT Tryz.prog 236 1 = some (1, 1) := by kernel_rfl
theorem ag237 : aggT Tryz.prog 237 = some false := by kernel_rfl
theorem cc237 : concT Tryz.prog 237 = true := by kernel_rfl
theorem kn239 : knownT Tryz.prog 239 = true := by kernel_rfl
theorem ag240 : aggT Tryz.prog 240 = some false := by kernel_rfl
theorem cc240 : concT Tryz.prog 240 = true := by kernel_rfl
theorem kn241 : knownT Tryz.prog 241 = true := by kernel_rfl
theorem ag242 : aggT Tryz.prog 242 = some false := by kernel_rfl
theorem cc242 : concT Tryz.prog 242 = true := by kernel_rfl
theorem kn243 : knownT Tryz.prog 243 = true := by kernel_rfl
theorem ag244 : aggT Tryz.prog 244 = some true := by kernel_rfl
theorem ar244 : arN Tryz.prog 244 = some (20, 1) := by kernel_rfl
theorem ag245 : aggT Tryz.prog 245 = some true := by kernel_rfl
theorem ar245 : arN Tryz.prog 245 = some (65, 1) := by kernel_rfl
theorem ag246 : aggT Tryz.prog 246 = some false := by kernel_rfl
theorem cc246 : concT Tryz.prog 246 = true := by kernel_rfl
theorem kn248 : knownT Tryz.prog 248 = true := by kernel_rfl
theorem ag249 : aggT Tryz.prog 249 = some false := by kernel_rfl
theorem cc249 : concT Tryz.prog 249 = true := by kernel_rfl
theorem kn251 : knownT Tryz.prog 251 = true := by kernel_rfl
theorem ag252 : aggT Tryz.prog 252 = some false := by kernel_rfl
theorem mt252 : mapT Tryz.prog 252 = true := by kernel_rfl
theorem sz253 : sizeT Tryz.prog 253 = some 1 := by kernel_rfl
theorem fk253 : fieldsOkT Tryz.prog 253 = true := by kernel_rfl
theorem ag254 : aggT Tryz.prog 254 = some true := by kernel_rfl
theorem cc254 : concT Tryz.prog 254 = true := by kernel_rfl
theorem zt254 : zeroT Tryz.prog 254 = some #[.map none] := by kernel_rfl
theorem by255 : bytesT Tryz.prog 255 = some 8 := by kernel_rfl
theorem sz257 : sizeT Tryz.prog 257 = some 1 := by kernel_rfl
theorem zt257 : zeroT Tryz.prog 257 = some #[.nilFunc] := by kernel_rfl
theorem by258 : bytesT Tryz.prog 258 = some 8 := by kernel_rfl
theorem sz260 : sizeT Tryz.prog 260 = some 1 := by kernel_rfl
theorem zt260 : zeroT Tryz.prog 260 = some #[.nilFunc] := by kernel_rfl
theorem by261 : bytesT Tryz.prog 261 = some 8 := by kernel_rfl
theorem sz262 : sizeT Tryz.prog 262 = some 1 := by kernel_rfl
theorem zt262 : zeroT Tryz.prog 262 = some #[.nilFunc] := by kernel_rfl
theorem by263 : bytesT Tryz.prog 263 = some 8 := by kernel_rfl
theorem sz264 : sizeT Tryz.prog 264 = some 1 := by kernel_rfl
theorem zt264 : zeroT Tryz.prog 264 = some #[.nilFunc] := by kernel_rfl
theorem by265 : bytesT Tryz.prog 265 = some 8 := by kernel_rfl
theorem sz266 : sizeT Tryz.prog 266 = some 3 := by kernel_rfl
theorem fk266 : fieldsOkT Tryz.prog 266 = true := by kernel_rfl
theorem pl266_1 : placeT Tryz.prog 266 1 = some (1, 1) := by kernel_rfl
theorem ag267 : aggT Tryz.prog 267 = some true := by kernel_rfl
theorem cc267 : concT Tryz.prog 267 = true := by kernel_rfl
theorem fo267_1 : fOff Tryz.prog 267 1 = some 1 := by kernel_rfl
theorem zt267 : zeroT Tryz.prog 267 = some #[.int .i64 0, .string ByteArray.empty, .bool false] := by kernel_rfl
theorem by268 : bytesT Tryz.prog 268 = some 8 := by kernel_rfl
theorem sz269 : sizeT Tryz.prog 269 = some 1 := by kernel_rfl
theorem zt269 : zeroT Tryz.prog 269 = some #[.nilFunc] := by kernel_rfl
theorem by270 : bytesT Tryz.prog 270 = some 8 := by kernel_rfl
theorem sz271 : sizeT Tryz.prog 271 = some 1 := by kernel_rfl
theorem zt271 : zeroT Tryz.prog 271 = some #[.nilFunc] := by kernel_rfl
theorem by273 : bytesT Tryz.prog 273 = some 8 := by kernel_rfl
theorem sz274 : sizeT Tryz.prog 274 = some 1 := by kernel_rfl
theorem zt274 : zeroT Tryz.prog 274 = some #[.nilFunc] := by kernel_rfl
theorem by275 : bytesT Tryz.prog 275 = some 8 := by kernel_rfl
theorem sz276 : sizeT Tryz.prog 276 = some 1 := by kernel_rfl
theorem zt276 : zeroT Tryz.prog 276 = some #[.nilFunc] := by kernel_rfl
theorem by277 : bytesT Tryz.prog 277 = some 8 := by kernel_rfl
theorem sz278 : sizeT Tryz.prog 278 = some 1 := by kernel_rfl
theorem zt278 : zeroT Tryz.prog 278 = some #[.nilFunc] := by kernel_rfl
theorem by279 : bytesT Tryz.prog 279 = some 8 := by kernel_rfl
theorem sz280 : sizeT Tryz.prog 280 = some 1 := by kernel_rfl
theorem zt280 : zeroT Tryz.prog 280 = some #[.nilFunc] := by kernel_rfl
theorem by282 : bytesT Tryz.prog 282 = some 8 := by kernel_rfl
theorem sz283 : sizeT Tryz.prog 283 = some 1 := by kernel_rfl
theorem zt283 : zeroT Tryz.prog 283 = some #[.nilFunc] := by kernel_rfl
theorem by285 : bytesT Tryz.prog 285 = some 8 := by kernel_rfl
theorem sz286 : sizeT Tryz.prog 286 = some 1 := by kernel_rfl
theorem zt286 : zeroT Tryz.prog 286 = some #[.nilFunc] := by kernel_rfl
theorem by287 : bytesT Tryz.prog 287 = some 8 := by kernel_rfl
theorem sz289 : sizeT Tryz.prog 289 = some 1 := by kernel_rfl
theorem zt289 : zeroT Tryz.prog 289 = some #[.nilFunc] := by kernel_rfl
theorem by290 : bytesT Tryz.prog 290 = some 8 := by kernel_rfl
theorem sz291 : sizeT Tryz.prog 291 = some 1 := by kernel_rfl
theorem zt291 : zeroT Tryz.prog 291 = some #[.nilFunc] := by kernel_rfl
theorem by292 : bytesT Tryz.prog 292 = some 8 := by kernel_rfl
theorem sz293 : sizeT Tryz.prog 293 = some 32 := by kernel_rfl
theorem cc293 : concT Tryz.prog 293 = true := by kernel_rfl
theorem sz294 : sizeT Tryz.prog 294 = some 1 := by kernel_rfl
theorem zt294 : zeroT Tryz.prog 294 = some #[.nilFunc] := by kernel_rfl
theorem by295 : bytesT Tryz.prog 295 = some 8 := by kernel_rfl
theorem sz296 : sizeT Tryz.prog 296 = some 1 := by kernel_rfl
theorem zt296 : zeroT Tryz.prog 296 = some #[.nilFunc] := by kernel_rfl
theorem by297 : bytesT Tryz.prog 297 = some 40 := by kernel_rfl
theorem pl297_0 : placeT Tryz.prog 297 0 = some (0, 1) := by kernel_rfl
theorem pl297_2 : placeT Tryz.prog 297 2 = some (2, 1) := by kernel_rfl
theorem ag298 : aggT Tryz.prog 298 = some true := by kernel_rfl
theorem cc298 : concT Tryz.prog 298 = true := by kernel_rfl
theorem fo298_1 : fOff Tryz.prog 298 1 = some 1 := by kernel_rfl
theorem fo298_3 : fOff Tryz.prog 298 3 = some 3 := by kernel_rfl
theorem sz299 : sizeT Tryz.prog 299 = some 0 := by kernel_rfl
theorem fk299 : fieldsOkT Tryz.prog 299 = true := by kernel_rfl
theorem kn300 : knownT Tryz.prog 300 = true := by kernel_rfl
theorem ag301 : aggT Tryz.prog 301 = some true := by kernel_rfl
theorem fk301 : fieldsOkT Tryz.prog 301 = true := by kernel_rfl
theorem kn302 : knownT Tryz.prog 302 = true := by kernel_rfl
theorem cc302 : concT Tryz.prog 302 = true := by kernel_rfl
theorem kn303 : knownT Tryz.prog 303 = true := by kernel_rfl
theorem cc303 : concT Tryz.prog 303 = true := by kernel_rfl
theorem kn304 : knownT Tryz.prog 304 = true := by kernel_rfl
theorem ag305 : aggT Tryz.prog 305 = some false := by kernel_rfl
theorem it305 : intT Tryz.prog 305 = some .i32 := by kernel_rfl
theorem sz306 : sizeT Tryz.prog 306 = some 1 := by kernel_rfl
theorem cc306 : concT Tryz.prog 306 = true := by kernel_rfl
theorem kn307 : knownT Tryz.prog 307 = true := by kernel_rfl
theorem fo307_0 : fOff Tryz.prog 307 0 = some 0 := by kernel_rfl
theorem fo307_2 : fOff Tryz.prog 307 2 = some 2 := by kernel_rfl
theorem fo307_4 : fOff Tryz.prog 307 4 = some 4 := by kernel_rfl
theorem fo307_6 : fOff Tryz.prog 307 6 = some 6 := by kernel_rfl
theorem fo307_8 : fOff Tryz.prog 307 8 = some 8 := by kernel_rfl
theorem fo307_10 : fOff Tryz.prog 307 10 = some 10 := by kernel_rfl
theorem sz308 : sizeT Tryz.prog 308 = some 11 := by kernel_rfl
theorem fk308 : fieldsOkT Tryz.prog 308 = true := by kernel_rfl
theorem pl308_1 : placeT Tryz.prog 308 1 = some (1, 1) := by kernel_rfl
theorem pl308_3 : placeT Tryz.prog 308 3 = some (3, 1) := by kernel_rfl
theorem pl308_5 : placeT Tryz.prog 308 5 = some (5, 1) := by kernel_rfl
theorem pl308_7 : placeT Tryz.prog 308 7 = some (7, 1) := by kernel_rfl
theorem pl308_9 : placeT Tryz.prog 308 9 = some (9, 1) := by kernel_rfl
theorem ag309 : aggT Tryz.prog 309 = some false := by kernel_rfl
theorem cc309 : concT Tryz.prog 309 = true := by kernel_rfl
theorem cl4 : Callable Tryz.prog 4 := ⟨_, Tryz.func4, by kernel_rfl, by kernel_rfl⟩
theorem cl8 : Callable Tryz.prog 8 := ⟨_, Tryz.func8, by kernel_rfl, by kernel_rfl⟩
theorem cl12 : Callable Tryz.prog 12 := ⟨_, Tryz.func12, by kernel_rfl, by kernel_rfl⟩
theorem cl16 : Callable Tryz.prog 16 := ⟨_, Tryz.func16, by kernel_rfl, by kernel_rfl⟩
theorem cl20 : Callable Tryz.prog 20 := ⟨_, Tryz.func20, by kernel_rfl, by kernel_rfl⟩
theorem cl24 : Callable Tryz.prog 24 := ⟨_, Tryz.func24, by kernel_rfl, by kernel_rfl⟩
theorem cl28 : Callable Tryz.prog 28 := ⟨_, Tryz.func28, by kernel_rfl, by kernel_rfl⟩
theorem cl32 : Callable Tryz.prog 32 := ⟨_, Tryz.func32, by kernel_rfl, by kernel_rfl⟩
theorem cl36 : Callable Tryz.prog 36 := ⟨_, Tryz.func36, by kernel_rfl, by kernel_rfl⟩
theorem cl40 : Callable Tryz.prog 40 := ⟨_, Tryz.func40, by kernel_rfl, by kernel_rfl⟩
theorem cl44 : Callable Tryz.prog 44 := ⟨_, Tryz.func44, by kernel_rfl, by kernel_rfl⟩
theorem cl48 : Callable Tryz.prog 48 := ⟨_, Tryz.func48, by kernel_rfl, by kernel_rfl⟩
theorem cl52 : Callable Tryz.prog 52 := ⟨_, Tryz.func52, by kernel_rfl, by kernel_rfl⟩
theorem cl56 : Callable Tryz.prog 56 := ⟨_, Tryz.func56, by kernel_rfl, by kernel_rfl⟩
theorem cl60 : Callable Tryz.prog 60 := ⟨_, Tryz.func60, by kernel_rfl, by kernel_rfl⟩
theorem cl64 : Callable Tryz.prog 64 := ⟨_, Tryz.func64, by kernel_rfl, by kernel_rfl⟩
theorem cl68 : Callable Tryz.prog 68 := ⟨_, Tryz.func68, by kernel_rfl, by kernel_rfl⟩
theorem cl72 : Callable Tryz.prog 72 := ⟨_, Tryz.func72, by kernel_rfl, by kernel_rfl⟩
theorem cl76 : Callable Tryz.prog 76 := ⟨_, Tryz.func76, by kernel_rfl, by kernel_rfl⟩
theorem cl80 : Callable Tryz.prog 80 := ⟨_, Tryz.func80, by kernel_rfl, by kernel_rfl⟩
theorem cl84 : Callable Tryz.prog 84 := ⟨_, Tryz.func84, by kernel_rfl, by kernel_rfl⟩
theorem cl89 : Callable Tryz.prog 89 := ⟨_, Tryz.func89, by kernel_rfl, by kernel_rfl⟩
theorem cl93 : Callable Tryz.prog 93 := ⟨_, Tryz.func93, by kernel_rfl, by kernel_rfl⟩
theorem cl97 : Callable Tryz.prog 97 := ⟨_, Tryz.func97, by kernel_rfl, by kernel_rfl⟩
theorem cl101 : Callable Tryz.prog 101 := ⟨_, Tryz.func101, by kernel_rfl, by kernel_rfl⟩
theorem cl105 : Callable Tryz.prog 105 := ⟨_, Tryz.func105, by kernel_rfl, by kernel_rfl⟩
theorem cl109 : Callable Tryz.prog 109 := ⟨_, Tryz.func109, by kernel_rfl, by kernel_rfl⟩
theorem cl113 : Callable Tryz.prog 113 := ⟨_, Tryz.func113, by kernel_rfl, by kernel_rfl⟩
theorem cl117 : Callable Tryz.prog 117 := ⟨_, Tryz.func117, by kernel_rfl, by kernel_rfl⟩
theorem cl121 : Callable Tryz.prog 121 := ⟨_, Tryz.func121, by kernel_rfl, by kernel_rfl⟩
theorem cl125 : Callable Tryz.prog 125 := ⟨_, Tryz.func125, by kernel_rfl, by kernel_rfl⟩
theorem cl129 : Callable Tryz.prog 129 := ⟨_, Tryz.func129, by kernel_rfl, by kernel_rfl⟩
theorem cl133 : Callable Tryz.prog 133 := ⟨_, Tryz.func133, by kernel_rfl, by kernel_rfl⟩
theorem cl137 : Callable Tryz.prog 137 := ⟨_, Tryz.func137, by kernel_rfl, by kernel_rfl⟩
theorem cl141 : Callable Tryz.prog 141 := ⟨_, Tryz.func141, by kernel_rfl, by kernel_rfl⟩
theorem cl145 : Callable Tryz.prog 145 := ⟨_, Tryz.func145, by kernel_rfl, by kernel_rfl⟩
theorem cl149 : Callable Tryz.prog 149 := ⟨_, Tryz.func149, by kernel_rfl, by kernel_rfl⟩
theorem cl153 : Callable Tryz.prog 153 := ⟨_, Tryz.func153, by kernel_rfl, by kernel_rfl⟩
theorem cl157 : Callable Tryz.prog 157 := ⟨_, Tryz.func157, by kernel_rfl, by kernel_rfl⟩
theorem cl161 : Callable Tryz.prog 161 := ⟨_, Tryz.func161, by kernel_rfl, by kernel_rfl⟩
theorem cl165 : Callable Tryz.prog 165 := ⟨_, Tryz.func165, by kernel_rfl, by kernel_rfl⟩
theorem cl169 : Callable Tryz.prog 169 := ⟨_, Tryz.func169, by kernel_rfl, by kernel_rfl⟩
theorem cl173 : Callable Tryz.prog 173 := ⟨_, Tryz.func173, by kernel_rfl, by kernel_rfl⟩
theorem cl177 : Callable Tryz.prog 177 := ⟨_, Tryz.func177, by kernel_rfl, by kernel_rfl⟩
theorem cl181 : Callable Tryz.prog 181 := ⟨_, Tryz.func181, by kernel_rfl, by kernel_rfl⟩
theorem cl202 : Callable Tryz.prog 202 := ⟨_, Tryz.func202, by kernel_rfl, by kernel_rfl⟩
theorem cl215 : Callable Tryz.prog 215 := ⟨_, Tryz.func215, by kernel_rfl, by kernel_rfl⟩
end Go.Fw
