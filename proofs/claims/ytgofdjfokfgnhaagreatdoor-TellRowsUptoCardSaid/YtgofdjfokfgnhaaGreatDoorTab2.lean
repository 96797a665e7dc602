/-
  A part of the proof: lemmas on which the theorem leans; nothing is claimed here by itself.
-/
import Derived.Test.YtgofdjfokfgnhaaGreatDoorFw
import Derived.Test.YtgofdjfokfgnhaaGreatDoorProg
namespace Go.Fw
open Go Go.Proofs
theorem kn1 : knownT Tryz.prog 1 = true := by kernel_rfl
theorem ag2 : aggT Tryz.prog 2 = some false := by kernel_rfl
theorem it2 : intT Tryz.prog 2 = some .i64 := by kernel_rfl
theorem sz3 : sizeT Tryz.prog 3 = some 1 := by kernel_rfl
theorem cc3 : concT Tryz.prog 3 = true := by kernel_rfl
theorem kn4 : knownT Tryz.prog 4 = true := by kernel_rfl
theorem zt4 : zeroT Tryz.prog 4 = some #[.bool false] := by kernel_rfl
theorem by5 : bytesT Tryz.prog 5 = some 1 := by kernel_rfl
theorem zt5 : zeroT Tryz.prog 5 = some #[.int .u8 0] := by kernel_rfl
theorem by6 : bytesT Tryz.prog 6 = some 1 := by kernel_rfl
theorem zt6 : zeroT Tryz.prog 6 = some #[.int .u8 0] := by kernel_rfl
theorem by7 : bytesT Tryz.prog 7 = some 24 := by kernel_rfl
theorem pl7_0 : placeT Tryz.prog 7 0 = some (0, 1) := by kernel_rfl
theorem pl7_2 : placeT Tryz.prog 7 2 = some (2, 1) := by kernel_rfl
theorem ag8 : aggT Tryz.prog 8 = some true := by kernel_rfl
theorem cc8 : concT Tryz.prog 8 = true := by kernel_rfl
theorem fo8_1 : fOff Tryz.prog 8 1 = some 1 := by kernel_rfl
theorem fo8_3 : fOff Tryz.prog 8 3 = some 3 := by kernel_rfl
theorem sz9 : sizeT Tryz.prog 9 = some 1 := by kernel_rfl
theorem st9 : strT Tryz.prog 9 = true := by kernel_rfl
theorem sz10 : sizeT Tryz.prog 10 = some 1 := by kernel_rfl
theorem st10 : strT Tryz.prog 10 = true := by kernel_rfl
theorem sz11 : sizeT Tryz.prog 11 = some 1 := by kernel_rfl
theorem st11 : strT Tryz.prog 11 = true := by kernel_rfl
theorem sz12 : sizeT Tryz.prog 12 = some 1 := by kernel_rfl
theorem cc12 : concT Tryz.prog 12 = true := by kernel_rfl
theorem kn13 : knownT Tryz.prog 13 = true := by kernel_rfl
theorem fo13_0 : fOff Tryz.prog 13 0 = some 0 := by kernel_rfl
theorem zt13 : zeroT Tryz.prog 13 = some #[.string ByteArray.empty, .int .u64 0] := by kernel_rfl
theorem by14 : bytesT Tryz.prog 14 = some 24 := by kernel_rfl
theorem pl14_0 : placeT Tryz.prog 14 0 = some (0, 1) := by kernel_rfl
theorem ag15 : aggT Tryz.prog 15 = some false := by kernel_rfl
theorem pt15 : ptrT Tryz.prog 15 = true := by kernel_rfl
theorem sz16 : sizeT Tryz.prog 16 = some 1 := by kernel_rfl
theorem cc16 : concT Tryz.prog 16 = true := by kernel_rfl
theorem kn17 : knownT Tryz.prog 17 = true := by kernel_rfl
theorem zt17 : zeroT Tryz.prog 17 = some #[.pointer none] := by kernel_rfl
theorem by18 : bytesT Tryz.prog 18 = some 8 := by kernel_rfl
theorem pl18_0 : placeT Tryz.prog 18 0 = some (0, 1) := by kernel_rfl
theorem kn19 : knownT Tryz.prog 19 = true := by kernel_rfl
theorem fo19_0 : fOff Tryz.prog 19 0 = some 0 := by kernel_rfl
theorem sz20 : sizeT Tryz.prog 20 = some 1 := by kernel_rfl
theorem ag21 : aggT Tryz.prog 21 = some false := by kernel_rfl
theorem it21 : intT Tryz.prog 21 = some .i32 := by kernel_rfl
theorem sz22 : sizeT Tryz.prog 22 = some 1 := by kernel_rfl
theorem cc22 : concT Tryz.prog 22 = true := by kernel_rfl
theorem kn23 : knownT Tryz.prog 23 = true := by kernel_rfl
theorem si23 : (slT Tryz.prog 23).isSome = true := by kernel_rfl
theorem ag24 : aggT Tryz.prog 24 = some false := by kernel_rfl
theorem ni24 : notInt Tryz.prog 24 = true := by kernel_rfl
theorem cc24 : concT Tryz.prog 24 = true := by kernel_rfl
theorem kn25 : knownT Tryz.prog 25 = true := by kernel_rfl
theorem fo25_0 : fOff Tryz.prog 25 0 = some 0 := by kernel_rfl
theorem fo25_2 : fOff Tryz.prog 25 2 = some 2 := by kernel_rfl
theorem fo25_4 : fOff Tryz.prog 25 4 = some 4 := by kernel_rfl
theorem sz26 : sizeT Tryz.prog 26 = some 5 := by kernel_rfl
theorem fk26 : fieldsOkT Tryz.prog 26 = true := by kernel_rfl
theorem pl26_1 : placeT Tryz.prog 26 1 = some (1, 1) := by kernel_rfl
theorem pl26_3 : placeT Tryz.prog 26 3 = some (3, 1) := by kernel_rfl
theorem ag27 : aggT Tryz.prog 27 = some false := by kernel_rfl
theorem cc27 : concT Tryz.prog 27 = true := by kernel_rfl
theorem kn28 : knownT Tryz.prog 28 = true := by kernel_rfl
theorem ag29 : aggT Tryz.prog 29 = some false := by kernel_rfl
theorem cc29 : concT Tryz.prog 29 = true := by kernel_rfl
theorem kn30 : knownT Tryz.prog 30 = true := by kernel_rfl
theorem fo30_0 : fOff Tryz.prog 30 0 = some 0 := by kernel_rfl
theorem fo30_2 : fOff Tryz.prog 30 2 = some 2 := by kernel_rfl
theorem sz31 : sizeT Tryz.prog 31 = some 3 := by kernel_rfl
theorem fk31 : fieldsOkT Tryz.prog 31 = true := by kernel_rfl
theorem pl31_1 : placeT Tryz.prog 31 1 = some (1, 1) := by kernel_rfl
theorem ag32 : aggT Tryz.prog 32 = some false := by kernel_rfl
theorem cc32 : concT Tryz.prog 32 = true := by kernel_rfl
theorem kn33 : knownT Tryz.prog 33 = true := by kernel_rfl
theorem ag34 : aggT Tryz.prog 34 = some false := by kernel_rfl
theorem cc34 : concT Tryz.prog 34 = true := by kernel_rfl
theorem kn35 : knownT Tryz.prog 35 = true := by kernel_rfl
theorem ag36 : aggT Tryz.prog 36 = some false := by kernel_rfl
theorem ni36 : notInt Tryz.prog 36 = true := by kernel_rfl
theorem cc36 : concT Tryz.prog 36 = true := by kernel_rfl
theorem kn37 : knownT Tryz.prog 37 = true := by kernel_rfl
theorem ag38 : aggT Tryz.prog 38 = some false := by kernel_rfl
theorem pt38 : ptrT Tryz.prog 38 = true := by kernel_rfl
theorem sz39 : sizeT Tryz.prog 39 = some 1 := by kernel_rfl
theorem zt39 : zeroT Tryz.prog 39 = some #[.nilFunc] := by kernel_rfl
theorem by40 : bytesT Tryz.prog 40 = some 8 := by kernel_rfl
theorem ag41 : aggT Tryz.prog 41 = some false := by kernel_rfl
theorem ni41 : notInt Tryz.prog 41 = true := by kernel_rfl
theorem cc41 : concT Tryz.prog 41 = true := by kernel_rfl
theorem kn42 : knownT Tryz.prog 42 = true := by kernel_rfl
theorem fk42 : fieldsOkT Tryz.prog 42 = true := by kernel_rfl
theorem kn43 : knownT Tryz.prog 43 = true := by kernel_rfl
theorem fo43_0 : fOff Tryz.prog 43 0 = some 0 := by kernel_rfl
theorem sz44 : sizeT Tryz.prog 44 = some 4 := by kernel_rfl
theorem fk44 : fieldsOkT Tryz.prog 44 = true := by kernel_rfl
theorem ag45 : aggT Tryz.prog 45 = some true := by kernel_rfl
theorem cc45 : concT Tryz.prog 45 = true := by kernel_rfl
theorem zt45 : zeroT Tryz.prog 45 = some #[.slice none 0 0] := by kernel_rfl
theorem by46 : bytesT Tryz.prog 46 = some 24 := by kernel_rfl
theorem pl46_0 : placeT Tryz.prog 46 0 = some (0, 1) := by kernel_rfl
theorem kn47 : knownT Tryz.prog 47 = true := by kernel_rfl
theorem zt47 : zeroT Tryz.prog 47 = some #[.int .u64 0] := by kernel_rfl
theorem by48 : bytesT Tryz.prog 48 = some 120 := by kernel_rfl
theorem pl48_0 : placeT Tryz.prog 48 0 = some (0, 1) := by kernel_rfl
theorem pl48_2 : placeT Tryz.prog 48 2 = some (2, 1) := by kernel_rfl
theorem pl48_4 : placeT Tryz.prog 48 4 = some (6, 1) := by kernel_rfl
theorem pl48_6 : placeT Tryz.prog 48 6 = some (8, 1) := by kernel_rfl
theorem ag49 : aggT Tryz.prog 49 = some true := by kernel_rfl
theorem cc49 : concT Tryz.prog 49 = true := by kernel_rfl
theorem fo49_1 : fOff Tryz.prog 49 1 = some 1 := by kernel_rfl
theorem fo49_3 : fOff Tryz.prog 49 3 = some 3 := by kernel_rfl
theorem fo49_5 : fOff Tryz.prog 49 5 = some 7 := by kernel_rfl
theorem fo49_7 : fOff Tryz.prog 49 7 = some 9 := by kernel_rfl
theorem sz50 : sizeT Tryz.prog 50 = some 12 := by kernel_rfl
theorem fk50 : fieldsOkT Tryz.prog 50 = true := by kernel_rfl
theorem pl50_1 : placeT Tryz.prog 50 1 = some (10, 1) := by kernel_rfl
theorem ag51 : aggT Tryz.prog 51 = some true := by kernel_rfl
theorem cc51 : concT Tryz.prog 51 = true := by kernel_rfl
theorem fo51_1 : fOff Tryz.prog 51 1 = some 10 := by kernel_rfl
theorem zt51 : zeroT Tryz.prog 51 = some #[.int .i64 0, .int .i64 0, .int .i64 0, .int .i64 0, .string ByteArray.empty, .string ByteArray.empty, .string ByteArray.empty, .int .i64 0, .int .u64 0, .slice none 0 0, .int .i64 0, .bool false] := by kernel_rfl
theorem by52 : bytesT Tryz.prog 52 = some 8 := by kernel_rfl
theorem sz53 : sizeT Tryz.prog 53 = some 1 := by kernel_rfl
theorem zt53 : zeroT Tryz.prog 53 = some #[.nilFunc] := by kernel_rfl
theorem by54 : bytesT Tryz.prog 54 = some 8 := by kernel_rfl
theorem sz55 : sizeT Tryz.prog 55 = some 1 := by kernel_rfl
theorem zt55 : zeroT Tryz.prog 55 = some #[.nilFunc] := by kernel_rfl
theorem by56 : bytesT Tryz.prog 56 = some 8 := by kernel_rfl
theorem sz57 : sizeT Tryz.prog 57 = some 1 := by kernel_rfl
theorem zt57 : zeroT Tryz.prog 57 = some #[.nilFunc] := by kernel_rfl
theorem by58 : bytesT Tryz.prog 58 = some 8 := by kernel_rfl
theorem sz59 : sizeT Tryz.prog 59 = some 1 := by kernel_rfl
theorem sl59 : slT Tryz.prog 59 = some 49 := by kernel_rfl
theorem zt59 : zeroT Tryz.prog 59 = some #[.slice none 0 0] := by kernel_rfl
theorem by60 : bytesT Tryz.prog 60 = some 8 := by kernel_rfl
theorem sz61 : sizeT Tryz.prog 61 = some 1 := by kernel_rfl
theorem zt61 : zeroT Tryz.prog 61 = some #[.nilFunc] := by kernel_rfl
theorem by62 : bytesT Tryz.prog 62 = some 8 := by kernel_rfl
theorem ag63 : aggT Tryz.prog 63 = some false := by kernel_rfl
theorem ni63 : notInt Tryz.prog 63 = true := by kernel_rfl
theorem ag64 : aggT Tryz.prog 64 = some false := by kernel_rfl
theorem ni64 : notInt Tryz.prog 64 = true := by kernel_rfl
theorem cc64 : concT Tryz.prog 64 = true := by kernel_rfl
theorem kn65 : knownT Tryz.prog 65 = true := by kernel_rfl
theorem fo65_0 : fOff Tryz.prog 65 0 = some 0 := by kernel_rfl
theorem fo65_2 : fOff Tryz.prog 65 2 = some 2 := by kernel_rfl
theorem sz66 : sizeT Tryz.prog 66 = some 1 := by kernel_rfl
theorem ag67 : aggT Tryz.prog 67 = some false := by kernel_rfl
theorem zt67 : zeroT Tryz.prog 67 = some #[.nilIface] := by kernel_rfl
theorem by70 : bytesT Tryz.prog 70 = some 8 := by kernel_rfl
theorem sz71 : sizeT Tryz.prog 71 = some 1 := by kernel_rfl
theorem cc71 : concT Tryz.prog 71 = true := by kernel_rfl
theorem kn72 : knownT Tryz.prog 72 = true := by kernel_rfl
theorem ag73 : aggT Tryz.prog 73 = some false := by kernel_rfl
theorem pt73 : ptrT Tryz.prog 73 = true := by kernel_rfl
theorem sz74 : sizeT Tryz.prog 74 = some 1 := by kernel_rfl
theorem cc74 : concT Tryz.prog 74 = true := by kernel_rfl
theorem kn75 : knownT Tryz.prog 75 = true := by kernel_rfl
theorem fo75_0 : fOff Tryz.prog 75 0 = some 0 := by kernel_rfl
theorem zt75 : zeroT Tryz.prog 75 = some #[.int .i64 0, .int .u64 0] := by kernel_rfl
theorem by76 : bytesT Tryz.prog 76 = some 16 := by kernel_rfl
theorem pl76_0 : placeT Tryz.prog 76 0 = some (0, 1) := by kernel_rfl
theorem ag77 : aggT Tryz.prog 77 = some true := by kernel_rfl
theorem cc77 : concT Tryz.prog 77 = true := by kernel_rfl
theorem fo77_1 : fOff Tryz.prog 77 1 = some 1 := by kernel_rfl
theorem fo77_3 : fOff Tryz.prog 77 3 = some 4 := by kernel_rfl
theorem sz78 : sizeT Tryz.prog 78 = some 5 := by kernel_rfl
theorem fk78 : fieldsOkT Tryz.prog 78 = true := by kernel_rfl
theorem pl78_1 : placeT Tryz.prog 78 1 = some (1, 1) := by kernel_rfl
theorem pl78_3 : placeT Tryz.prog 78 3 = some (4, 1) := by kernel_rfl
theorem kn79 : knownT Tryz.prog 79 = true := by kernel_rfl
theorem fk79 : fieldsOkT Tryz.prog 79 = true := by kernel_rfl
theorem kn80 : knownT Tryz.prog 80 = true := by kernel_rfl
theorem fo80_0 : fOff Tryz.prog 80 0 = some 0 := by kernel_rfl
theorem fo80_2 : fOff Tryz.prog 80 2 = some 21 := by kernel_rfl
theorem sz81 : sizeT Tryz.prog 81 = some 22 := by kernel_rfl
theorem fk81 : fieldsOkT Tryz.prog 81 = true := by kernel_rfl
theorem pl81_1 : placeT Tryz.prog 81 1 = some (1, 20) := by kernel_rfl
theorem ag82 : aggT Tryz.prog 82 = some false := by kernel_rfl
theorem pt82 : ptrT Tryz.prog 82 = true := by kernel_rfl
theorem sz83 : sizeT Tryz.prog 83 = some 1 := by kernel_rfl
theorem zt83 : zeroT Tryz.prog 83 = some #[.nilFunc] := by kernel_rfl
theorem by84 : bytesT Tryz.prog 84 = some 8 := by kernel_rfl
theorem sz85 : sizeT Tryz.prog 85 = some 1 := by kernel_rfl
theorem zt85 : zeroT Tryz.prog 85 = some #[.nilFunc] := by kernel_rfl
theorem by86 : bytesT Tryz.prog 86 = some 8 := by kernel_rfl
theorem sz87 : sizeT Tryz.prog 87 = some 1 := by kernel_rfl
theorem cc87 : concT Tryz.prog 87 = true := by kernel_rfl
theorem kn88 : knownT Tryz.prog 88 = true := by kernel_rfl
theorem ag89 : aggT Tryz.prog 89 = some false := by kernel_rfl
theorem pt89 : ptrT Tryz.prog 89 = true := by kernel_rfl
theorem sz90 : sizeT Tryz.prog 90 = some 2 := by kernel_rfl
theorem fk90 : fieldsOkT Tryz.prog 90 = true := by kernel_rfl
theorem pl90_1 : placeT Tryz.prog 90 1 = some (1, 1) := by kernel_rfl
theorem kn91 : knownT Tryz.prog 91 = true := by kernel_rfl
theorem fo91_0 : fOff Tryz.prog 91 0 = some 0 := by kernel_rfl
theorem zt91 : zeroT Tryz.prog 91 = some #[.pointer none, .slice none 0 0] := by kernel_rfl
theorem by92 : bytesT Tryz.prog 92 = some 16 := by kernel_rfl
theorem kn93 : knownT Tryz.prog 93 = true := by kernel_rfl
theorem sz95 : sizeT Tryz.prog 95 = some 1 := by kernel_rfl
theorem zt95 : zeroT Tryz.prog 95 = some #[.nilFunc] := by kernel_rfl
theorem by96 : bytesT Tryz.prog 96 = some 8 := by kernel_rfl
theorem sz97 : sizeT Tryz.prog 97 = some 1 := by kernel_rfl
theorem zt97 : zeroT Tryz.prog 97 = some #[.nilFunc] := by kernel_rfl
theorem by98 : bytesT Tryz.prog 98 = some 8 := by kernel_rfl
theorem ag99 : aggT Tryz.prog 99 = some false := by kernel_rfl
theorem cc99 : concT Tryz.prog 99 = true := by kernel_rfl
theorem kn100 : knownT Tryz.prog 100 = true := by kernel_rfl
theorem ag101 : aggT Tryz.prog 101 = some false := by kernel_rfl
theorem cc101 : concT Tryz.prog 101 = true := by kernel_rfl
theorem kn102 : knownT Tryz.prog 102 = true := by kernel_rfl
theorem si102 : (slT Tryz.prog 102).isSome = true := by kernel_rfl
theorem ag103 : aggT Tryz.prog 103 = some false := by kernel_rfl
theorem ni103 : notInt Tryz.prog 103 = true := by kernel_rfl
theorem cc103 : concT Tryz.prog 103 = true := by kernel_rfl
theorem kn104 : knownT Tryz.prog 104 = true := by kernel_rfl
theorem fo104_0 : fOff Tryz.prog 104 0 = some 0 := by kernel_rfl
theorem fo104_2 : fOff Tryz.prog 104 2 = some 2 := by kernel_rfl
theorem zt104 : zeroT Tryz.prog 104 = some #[.int .i64 0, .slice none 0 0, .slice none 0 0, .int .i64 0] := by kernel_rfl
theorem by105 : bytesT Tryz.prog 105 = some 64 := by kernel_rfl
theorem pl105_0 : placeT Tryz.prog 105 0 = some (0, 1) := by kernel_rfl
theorem pl105_2 : placeT Tryz.prog 105 2 = some (2, 1) := by kernel_rfl
theorem ag106 : aggT Tryz.prog 106 = some false := by kernel_rfl
theorem cc106 : concT Tryz.prog 106 = true := by kernel_rfl
theorem kn107 : knownT Tryz.prog 107 = true := by kernel_rfl
theorem ag108 : aggT Tryz.prog 108 = some false := by kernel_rfl
theorem ni108 : notInt Tryz.prog 108 = true := by kernel_rfl
theorem cc108 : concT Tryz.prog 108 = true := by kernel_rfl
theorem kn109 : knownT Tryz.prog 109 = true := by kernel_rfl
theorem fo109_0 : fOff Tryz.prog 109 0 = some 0 := by kernel_rfl
theorem fo109_2 : fOff Tryz.prog 109 2 = some 2 := by kernel_rfl
theorem sz110 : sizeT Tryz.prog 110 = some 3 := by kernel_rfl
theorem fk110 : fieldsOkT Tryz.prog 110 = true := by kernel_rfl
theorem pl110_1 : placeT Tryz.prog 110 1 = some (1, 1) := by kernel_rfl
theorem ag111 : aggT Tryz.prog 111 = some false := by kernel_rfl
theorem cc111 : concT Tryz.prog 111 = true := by kernel_rfl
theorem kn112 : knownT Tryz.prog 112 = true := by kernel_rfl
theorem ag114 : aggT Tryz.prog 114 = some false := by kernel_rfl
theorem cc114 : concT Tryz.prog 114 = true := by kernel_rfl
theorem kn115 : knownT Tryz.prog 115 = true := by kernel_rfl
theorem ag116 : aggT Tryz.prog 116 = some false := by kernel_rfl
theorem pt116 : ptrT Tryz.prog 116 = true := by kernel_rfl
theorem sz117 : sizeT Tryz.prog 117 = some 1 := by kernel_rfl
theorem cc117 : concT Tryz.prog 117 = true := by kernel_rfl
theorem kn118 : knownT Tryz.prog 118 = true := by kernel_rfl
theorem fk118 : fieldsOkT Tryz.prog 118 = true := by kernel_rfl
theorem kn119 : knownT Tryz.prog 119 = true := by kernel_rfl
theorem fo119_0 : fOff Tryz.prog 119 0 = some 0 := by kernel_rfl
theorem sz120 : sizeT Tryz.prog 120 = some 4 := by kernel_rfl
theorem fk120 : fieldsOkT Tryz.prog 120 = true := by kernel_rfl
theorem ag121 : aggT Tryz.prog 121 = some false := by kernel_rfl
theorem pt121 : ptrT Tryz.prog 121 = true := by kernel_rfl
theorem sz122 : sizeT Tryz.prog 122 = some 1 := by kernel_rfl
theorem cc122 : concT Tryz.prog 122 = true := by kernel_rfl
theorem kn123 : knownT Tryz.prog 123 = true := by kernel_rfl
theorem si123 : (slT Tryz.prog 123).isSome = true := by kernel_rfl
theorem ag124 : aggT Tryz.prog 124 = some true := by kernel_rfl
theorem cc124 : concT Tryz.prog 124 = true := by kernel_rfl
theorem zt124 : zeroT Tryz.prog 124 = some #[.slice none 0 0] := by kernel_rfl
theorem by125 : bytesT Tryz.prog 125 = some 24 := by kernel_rfl
theorem pl125_0 : placeT Tryz.prog 125 0 = some (0, 1) := by kernel_rfl
theorem kn126 : knownT Tryz.prog 126 = true := by kernel_rfl
theorem fo126_0 : fOff Tryz.prog 126 0 = some 0 := by kernel_rfl
theorem fo126_2 : fOff Tryz.prog 126 2 = some 5 := by kernel_rfl
theorem fo126_4 : fOff Tryz.prog 126 4 = some 7 := by kernel_rfl
theorem zt126 : zeroT Tryz.prog 126 = some #[.pointer none, .pointer none, .pointer none, .pointer none, .pointer none, .pointer none, .pointer none, .slice none 0 0, .int .i64 0] := by kernel_rfl
theorem by127 : bytesT Tryz.prog 127 = some 88 := by kernel_rfl
theorem pl127_0 : placeT Tryz.prog 127 0 = some (0, 1) := by kernel_rfl
theorem pl127_2 : placeT Tryz.prog 127 2 = some (5, 1) := by kernel_rfl
theorem pl127_4 : placeT Tryz.prog 127 4 = some (7, 1) := by kernel_rfl
theorem ag128 : aggT Tryz.prog 128 = some false := by kernel_rfl
theorem cc128 : concT Tryz.prog 128 = true := by kernel_rfl
theorem kn129 : knownT Tryz.prog 129 = true := by kernel_rfl
theorem ag130 : aggT Tryz.prog 130 = some false := by kernel_rfl
theorem cc130 : concT Tryz.prog 130 = true := by kernel_rfl
theorem kn131 : knownT Tryz.prog 131 = true := by kernel_rfl
theorem ag132 : aggT Tryz.prog 132 = some false := by kernel_rfl
theorem pt132 : ptrT Tryz.prog 132 = true := by kernel_rfl
theorem sz133 : sizeT Tryz.prog 133 = some 2 := by kernel_rfl
theorem fk133 : fieldsOkT Tryz.prog 133 = true := by kernel_rfl
theorem pl133_1 : placeT Tryz.prog 133 1 = some (1, 1) := by kernel_rfl
theorem kn134 : knownT Tryz.prog 134 = true := by kernel_rfl
theorem fo134_0 : fOff Tryz.prog 134 0 = some 0 := by kernel_rfl
theorem zt134 : zeroT Tryz.prog 134 = some #[.slice none 0 0, .bool false] := by kernel_rfl
theorem by135 : bytesT Tryz.prog 135 = some 8 := by kernel_rfl
theorem sz136 : sizeT Tryz.prog 136 = some 1 := by kernel_rfl
theorem cc136 : concT Tryz.prog 136 = true := by kernel_rfl
theorem kn137 : knownT Tryz.prog 137 = true := by kernel_rfl
theorem ag139 : aggT Tryz.prog 139 = some false := by kernel_rfl
theorem cc139 : concT Tryz.prog 139 = true := by kernel_rfl
theorem kn141 : knownT Tryz.prog 141 = true := by kernel_rfl
theorem ag142 : aggT Tryz.prog 142 = some false := by kernel_rfl
theorem cc142 : concT Tryz.prog 142 = true := by kernel_rfl
theorem kn143 : knownT Tryz.prog 143 = true := by kernel_rfl
theorem ag144 : aggT Tryz.prog 144 = some false := by kernel_rfl
theorem pt144 : ptrT Tryz.prog 144 = true := by kernel_rfl
theorem sz145 : sizeT Tryz.prog 145 = some 64 := by kernel_rfl
theorem cc145 : concT Tryz.prog 145 = true := by kernel_rfl
theorem sz146 : sizeT Tryz.prog 146 = some 65 := by kernel_rfl
theorem fk146 : fieldsOkT Tryz.prog 146 = true := by kernel_rfl
theorem pl146_1 : placeT Tryz.prog 146 1 = some (1, 64) := by kernel_rfl
theorem kn147 : knownT Tryz.prog 147 = true := by kernel_rfl
theorem fo147_0 : fOff Tryz.prog 147 0 = some 0 := by kernel_rfl
theorem zt147 : zeroT Tryz.prog 147 = some #[.int .i64 0, .int .u8 0, .int .u8 0, .int .u8 0, .int .u8 0, .int .u8 0, .int .u8 0, .int .u8 0, .int .u8 0, .int .u8 0, .int .u8 0, .int .u8 0, .int .u8 0, .int .u8 0, .int .u8 0, .int .u8 0, .int .u8 0, .int .u8 0, .int .u8 0, .int .u8 0, .int .u8 0, .int .u8 0, .int .u8 0, .int .u8 0, .int .u8 0, .int .u8 0, .int .u8 0, .int .u8 0, .int .u8 0, .int .u8 0, .int .u8 0, .int .u8 0, .int .u8 0, .int .u8 0, .int .u8 0, .int .u8 0, .int .u8 0, .int .u8 0, .int .u8 0, .int .u8 0, .int .u8 0, .int .u8 0, .int .u8 0, .int .u8 0, .int .u8 0, .int .u8 0, .int .u8 0, .int .u8 0, .int .u8 0, .int .u8 0, .int .u8 0, .int .u8 0, .int .u8 0, .int .u8 0, .int .u8 0, .int .u8 0, .int .u8 0, .int .u8 0, .int .u8 0, .int .u8 0, .int .u8 0, .int .u8 0, .int .u8 0, .int .u8 0, .int .u8 0] := by kernel_rfl
theorem by148 : bytesT Tryz.prog 148 = some 8 := by kernel_rfl
theorem sz149 : sizeT Tryz.prog 149 = some 1 := by kernel_rfl
theorem zt149 : zeroT Tryz.prog 149 = some #[.nilFunc] := by kernel_rfl
theorem by150 : bytesT Tryz.prog 150 = some 8 := by kernel_rfl
theorem sz151 : sizeT Tryz.prog 151 = some 1 := by kernel_rfl
theorem cc151 : concT Tryz.prog 151 = true := by kernel_rfl
theorem kn152 : knownT Tryz.prog 152 = true := by kernel_rfl
theorem ag153 : aggT Tryz.prog 153 = some false := by kernel_rfl
theorem cc153 : concT Tryz.prog 153 = true := by kernel_rfl
theorem kn154 : knownT Tryz.prog 154 = true := by kernel_rfl
theorem ag155 : aggT Tryz.prog 155 = some false := by kernel_rfl
theorem pt155 : ptrT Tryz.prog 155 = true := by kernel_rfl
theorem sz156 : sizeT Tryz.prog 156 = some 1 := by kernel_rfl
theorem zt156 : zeroT Tryz.prog 156 = some #[.nilFunc] := by kernel_rfl
theorem by157 : bytesT Tryz.prog 157 = some 56 := by kernel_rfl
theorem pl157_0 : placeT Tryz.prog 157 0 = some (0, 3) := by kernel_rfl
theorem pl157_2 : placeT Tryz.prog 157 2 = some (4, 1) := by kernel_rfl
theorem kn158 : knownT Tryz.prog 158 = true := by kernel_rfl
theorem fo158_0 : fOff Tryz.prog 158 0 = some 0 := by kernel_rfl
theorem fo158_2 : fOff Tryz.prog 158 2 = some 4 := by kernel_rfl
theorem sz159 : sizeT Tryz.prog 159 = some 1 := by kernel_rfl
theorem cc159 : concT Tryz.prog 159 = true := by kernel_rfl
theorem kn160 : knownT Tryz.prog 160 = true := by kernel_rfl
theorem fo160_0 : fOff Tryz.prog 160 0 = some 0 := by kernel_rfl
theorem fo160_2 : fOff Tryz.prog 160 2 = some 2 := by kernel_rfl
theorem sz161 : sizeT Tryz.prog 161 = some 3 := by kernel_rfl
theorem fk161 : fieldsOkT Tryz.prog 161 = true := by kernel_rfl
theorem pl161_1 : placeT Tryz.prog 161 1 = some (1, 1) := by kernel_rfl
theorem ag163 : aggT Tryz.prog 163 = some false := by kernel_rfl
theorem cc163 : concT Tryz.prog 163 = true := by kernel_rfl
theorem kn164 : knownT Tryz.prog 164 = true := by kernel_rfl
theorem si164 : (slT Tryz.prog 164).isSome = true := by kernel_rfl
theorem ag165 : aggT Tryz.prog 165 = some false := by kernel_rfl
theorem cc165 : concT Tryz.prog 165 = true := by kernel_rfl
theorem kn166 : knownT Tryz.prog 166 = true := by kernel_rfl
theorem fo166_0 : fOff Tryz.prog 166 0 = some 0 := by kernel_rfl
theorem fo166_2 : fOff Tryz.prog 166 2 = some 2 := by kernel_rfl
theorem fo166_4 : fOff Tryz.prog 166 4 = some 4 := by kernel_rfl
theorem fo166_6 : fOff Tryz.prog 166 6 = some 6 := by kernel_rfl
theorem zt166 : zeroT Tryz.prog 166 = some #[.int .i64 0, .int .i64 0, .int .i64 0, .int .i64 0, .string ByteArray.empty, .string ByteArray.empty, .string ByteArray.empty, .slice none 0 0] := by kernel_rfl
theorem by167 : bytesT Tryz.prog 167 = some 104 := by kernel_rfl
theorem pl167_0 : placeT Tryz.prog 167 0 = some (0, 1) := by kernel_rfl
theorem pl167_2 : placeT Tryz.prog 167 2 = some (2, 1) := by kernel_rfl
theorem pl167_4 : placeT Tryz.prog 167 4 = some (4, 1) := by kernel_rfl
theorem pl167_6 : placeT Tryz.prog 167 6 = some (6, 1) := by kernel_rfl
theorem ag168 : aggT Tryz.prog 168 = some false := by kernel_rfl
theorem ni168 : notInt Tryz.prog 168 = true := by kernel_rfl
theorem cc168 : concT Tryz.prog 168 = true := by kernel_rfl
theorem kn169 : knownT Tryz.prog 169 = true := by kernel_rfl
theorem ag170 : aggT Tryz.prog 170 = some false := by kernel_rfl
theorem ni170 : notInt Tryz.prog 170 = true := by kernel_rfl
theorem cc170 : concT Tryz.prog 170 = true := by kernel_rfl
theorem kn171 : knownT Tryz.prog 171 = true := by kernel_rfl
theorem ag172 : aggT Tryz.prog 172 = some true := by kernel_rfl
theorem cc172 : concT Tryz.prog 172 = true := by kernel_rfl
theorem fo172_1 : fOff Tryz.prog 172 1 = some 1 := by kernel_rfl
theorem zt172 : zeroT Tryz.prog 172 = some #[.int .i64 0, .int .i64 0, .string ByteArray.empty] := by kernel_rfl
theorem by173 : bytesT Tryz.prog 173 = some 32 := by kernel_rfl
theorem pl173_0 : placeT Tryz.prog 173 0 = some (0, 1) := by kernel_rfl
theorem pl173_2 : placeT Tryz.prog 173 2 = some (2, 1) := by kernel_rfl
theorem kn174 : knownT Tryz.prog 174 = true := by kernel_rfl
theorem ag176 : aggT Tryz.prog 176 = some false := by kernel_rfl
theorem cc176 : concT Tryz.prog 176 = true := by kernel_rfl
theorem kn177 : knownT Tryz.prog 177 = true := by kernel_rfl
theorem ag178 : aggT Tryz.prog 178 = some false := by kernel_rfl
theorem cc178 : concT Tryz.prog 178 = true := by kernel_rfl
theorem by179 : bytesT Tryz.prog 179 = some 8 := by kernel_rfl
theorem sz180 : sizeT Tryz.prog 180 = some 1 := by kernel_rfl
theorem zt180 : zeroT Tryz.prog 180 = some #[.nilFunc] := by kernel_rfl
theorem by181 : bytesT Tryz.prog 181 = some 24 := by kernel_rfl
theorem zt181 : zeroT Tryz.prog 181 = some #[.int .u8 0, .int .u8 0, .int .u8 0, .int .u8 0, .int .u8 0, .int .u8 0, .int .u8 0, .int .u8 0, .int .u8 0, .int .u8 0, .int .u8 0, .int .u8 0, .int .u8 0, .int .u8 0, .int .u8 0, .int .u8 0, .int .u8 0, .int .u8 0, .int .u8 0, .int .u8 0, .int .u8 0, .int .u8 0, .int .u8 0, .int .u8 0] := by kernel_rfl
theorem by182 : bytesT Tryz.prog 182 = some 8 := by kernel_rfl
theorem sz183 : sizeT Tryz.prog 183 = some 1 := by kernel_rfl
theorem zt183 : zeroT Tryz.prog 183 = some #[.nilFunc] := by kernel_rfl
theorem by185 : bytesT Tryz.prog 185 = some 8 := by kernel_rfl
theorem sz186 : sizeT Tryz.prog 186 = some 1 := by kernel_rfl
theorem zt186 : zeroT Tryz.prog 186 = some #[.nilFunc] := by kernel_rfl
theorem by187 : bytesT Tryz.prog 187 = some 24 := by kernel_rfl
theorem se187 : slE Tryz.prog 187 = some 9 := by kernel_rfl
theorem sz189 : sizeT Tryz.prog 189 = some 1 := by kernel_rfl
theorem zt189 : zeroT Tryz.prog 189 = some #[.nilFunc] := by kernel_rfl
theorem by190 : bytesT Tryz.prog 190 = some 8 := by kernel_rfl
theorem sz191 : sizeT Tryz.prog 191 = some 1 := by kernel_rfl
theorem zt191 : zeroT Tryz.prog 191 = some #[.nilFunc] := by kernel_rfl
theorem by192 : bytesT Tryz.prog 192 = some 96 := by kernel_rfl
theorem zt192 : zeroT Tryz.prog 192 = some #[.slice none 0 0, .slice none 0 0, .slice none 0 0, .slice none 0 0] := by kernel_rfl
theorem by193 : bytesT Tryz.prog 193 = some 4 := by kernel_rfl
theorem zt193 : zeroT Tryz.prog 193 = some #[.bool false, .bool false, .bool false, .bool false] := by kernel_rfl
theorem by194 : bytesT Tryz.prog 194 = some 112 := by kernel_rfl
theorem pl194_0 : placeT Tryz.prog 194 0 = some (0, 1) := by kernel_rfl
theorem pl194_2 : placeT Tryz.prog 194 2 = some (5, 4) := by kernel_rfl
theorem kn195 : knownT Tryz.prog 195 = true := by kernel_rfl
theorem fo195_0 : fOff Tryz.prog 195 0 = some 0 := by kernel_rfl
theorem fo195_2 : fOff Tryz.prog 195 2 = some 5 := by kernel_rfl
theorem sz196 : sizeT Tryz.prog 196 = some 1 := by kernel_rfl
theorem zt196 : zeroT Tryz.prog 196 = some #[.nilFunc] := by kernel_rfl
theorem by197 : bytesT Tryz.prog 197 = some 112 := by kernel_rfl
theorem pl197_0 : placeT Tryz.prog 197 0 = some (0, 1) := by kernel_rfl
theorem ag198 : aggT Tryz.prog 198 = some true := by kernel_rfl
theorem cc198 : concT Tryz.prog 198 = true := by kernel_rfl
theorem fo198_1 : fOff Tryz.prog 198 1 = some 1 := by kernel_rfl
theorem sz199 : sizeT Tryz.prog 199 = some 1 := by kernel_rfl
theorem zt199 : zeroT Tryz.prog 199 = some #[.nilFunc] := by kernel_rfl
theorem by200 : bytesT Tryz.prog 200 = some 8 := by kernel_rfl
theorem sz202 : sizeT Tryz.prog 202 = some 1 := by kernel_rfl
theorem zt202 : zeroT Tryz.prog 202 = some #[.nilFunc] := by kernel_rfl
theorem by203 : bytesT Tryz.prog 203 = some 8 := by kernel_rfl
theorem sz204 : sizeT Tryz.prog 204 = some 1 := by kernel_rfl
theorem zt204 : zeroT Tryz.prog 204 = some #[.nilFunc] := by kernel_rfl
theorem by206 : bytesT Tryz.prog 206 = some 8 := by kernel_rfl
theorem sz208 : sizeT Tryz.prog 208 = some 1 := by kernel_rfl
theorem zt208 : zeroT Tryz.prog 208 = some #[.nilFunc] := by kernel_rfl
theorem by209 : bytesT Tryz.prog 209 = some 8 := by kernel_rfl
theorem sz210 : sizeT Tryz.prog 210 = some 1 := by kernel_rfl
theorem zt210 : zeroT Tryz.prog 210 = some #[.nilFunc] := by kernel_rfl
theorem by211 : bytesT Tryz.prog 211 = some 8 := by kernel_rfl
theorem sz212 : sizeT Tryz.prog 212 = some 1 := by kernel_rfl
theorem sl212 : slT Tryz.prog 212 = some 24 := by kernel_rfl
theorem zt212 : zeroT Tryz.prog 212 = some #[.slice none 0 0] := by kernel_rfl
theorem by213 : bytesT Tryz.prog 213 = some 8 := by kernel_rfl
theorem sz214 : sizeT Tryz.prog 214 = some 1 := by kernel_rfl
theorem cc214 : concT Tryz.prog 214 = true := by kernel_rfl
theorem kn215 : knownT Tryz.prog 215 = true := by kernel_rfl
theorem ag216 : aggT Tryz.prog 216 = some false := by kernel_rfl
theorem pt216 : ptrT Tryz.prog 216 = true := by kernel_rfl
theorem sz217 : sizeT Tryz.prog 217 = some 1 := by kernel_rfl
theorem zt217 : zeroT Tryz.prog 217 = some #[.nilFunc] := by kernel_rfl
theorem by218 : bytesT Tryz.prog 218 = some 8 := by kernel_rfl
theorem sz219 : sizeT Tryz.prog 219 = some 1 := by kernel_rfl
theorem zt219 : zeroT Tryz.prog 219 = some #[.nilFunc] := by kernel_rfl
theorem by220 : bytesT Tryz.prog 220 = some 8 := by kernel_rfl
theorem sz221 : sizeT Tryz.prog 221 = some 6 := by kernel_rfl
theorem fk221 : fieldsOkT Tryz.prog 221 = true := by kernel_rfl
theorem pl221_1 : placeT Tryz.prog 221 1 = some (1, 1) := by kernel_rfl
theorem pl221_3 : placeT Tryz.prog 221 3 = some (3, 1) := by kernel_rfl
theorem pl221_5 : placeT Tryz.prog 221 5 = some (5, 1) := by kernel_rfl
theorem kn222 : knownT Tryz.prog 222 = true := by kernel_rfl
theorem fo222_0 : fOff Tryz.prog 222 0 = some 0 := by kernel_rfl
theorem fo222_2 : fOff Tryz.prog 222 2 = some 2 := by kernel_rfl
theorem fo222_4 : fOff Tryz.prog 222 4 = some 4 := by kernel_rfl
theorem zt222 : zeroT Tryz.prog 222 = some #[.pointer none, .int .i64 0, .int .u64 0, .int .i64 0, .slice none 0 0, .int .i64 0] := by kernel_rfl
theorem by223 : bytesT Tryz.prog 223 = some 8 := by kernel_rfl
theorem ag224 : aggT Tryz.prog 224 = some true := by kernel_rfl
theorem cc224 : concT Tryz.prog 224 = true := by kernel_rfl
theorem fo224_1 : fOff Tryz.prog 224 1 = some 1 := by kernel_rfl
theorem zt224 : zeroT Tryz.prog 224 = some #[.pointer none, .int .u64 0, .bool false] := by kernel_rfl
theorem by225 : bytesT Tryz.prog 225 = some 24 := by kernel_rfl
theorem pl225_0 : placeT Tryz.prog 225 0 = some (0, 1) := by kernel_rfl
theorem pl225_2 : placeT Tryz.prog 225 2 = some (2, 1) := by kernel_rfl
theorem kn226 : knownT Tryz.prog 226 = true := by kernel_rfl
theorem fk226 : fieldsOkT Tryz.prog 226 = true := by kernel_rfl
theorem kn227 : knownT Tryz.prog 227 = true := by kernel_rfl
theorem fo227_0 : fOff Tryz.prog 227 0 = some 0 := by kernel_rfl
theorem fo227_2 : fOff Tryz.prog 227 2 = some 2 := by kernel_rfl
theorem fo227_4 : fOff Tryz.prog 227 4 = some 12 := by kernel_rfl
theorem sz228 : sizeT Tryz.prog 228 = some 13 := by kernel_rfl
theorem fk228 : fieldsOkT Tryz.prog 228 = true := by kernel_rfl
theorem pl228_1 : placeT Tryz.prog 228 1 = some (1, 1) := by kernel_rfl
theorem pl228_3 : placeT Tryz.prog 228 3 = some (3, 9) := by kernel_rfl
theorem ag229 : aggT Tryz.prog 229 = some true := by kernel_rfl
theorem ar229 : arN Tryz.prog 229 = some (40, 1) := by kernel_rfl
theorem ag230 : aggT Tryz.prog 230 = some true := by kernel_rfl
theorem ar230 : arN Tryz.prog 230 = some (5, 40) := by kernel_rfl
theorem sz231 : sizeT Tryz.prog 231 = some 203 := by kernel_rfl
theorem fk231 : fieldsOkT Tryz.prog 231 = true := by kernel_rfl
theorem pl231_1 : placeT Tryz.prog 231 1 = some (1, 1) := by kernel_rfl
theorem pl231_3 : placeT Tryz.prog 231 3 = some (3, 200) := by kernel_rfl
theorem kn232 : knownT Tryz.prog 232 = true := by kernel_rfl
theorem fo232_0 : fOff Tryz.prog 232 0 = some 0 := by kernel_rfl
theorem fo232_2 : fOff Tryz.prog 232 2 = some 2 := by kernel_rfl
theorem zt232 : zeroT Tryz.prog 232 = some ((#[.int .u64 0, .int .i64 0, .int .i64 0] : Array Value) ++ (Array.replicate 200 (.int .u8 0) : Array Value)) := by kernel_rfl
theorem by233 : bytesT Tryz.prog 233 = some 8 := by kernel_rfl
theorem sz234 : sizeT Tryz.prog 234 = some 1 := by kernel_rfl
theorem zt234 : zeroT Tryz.prog 234 = some #[.nilFunc] := by kernel_rfl
theorem by235 : bytesT Tryz.prog 235 = some 56 := by kernel_rfl
theorem pl235_0 : placeT Tryz.prog 235 0 = some (0, 1) := by kernel_rfl
theorem pl235_2 : placeT Tryz.prog 235 2 = some (2, 1) := by kernel_rfl
theorem kn236 : knownT Tryz.prog 236 = true := by kernel_rfl
theorem fo236_0 : fOff Tryz.prog 236 0 = some 0 := by kernel_rfl
theorem fo236_2 : fOff Tryz.prog 236 2 = some 2 := by kernel_rfl
theorem sz237 : sizeT Tryz.prog 237 = some 1 := by kernel_rfl
theorem zt237 : zeroT Tryz.prog 237 = some #[.nilFunc] := by kernel_rfl
theorem by239 : bytesT Tryz.prog 239 = some 8 := by kernel_rfl
theorem sz240 : sizeT Tryz.prog 240 = some 1 := by kernel_rfl
theorem zt240 : zeroT Tryz.prog 240 = some #[.nilFunc] := by kernel_rfl
theorem by241 : bytesT Tryz.prog 241 = some 8 := by kernel_rfl
theorem sz242 : sizeT Tryz.prog 242 = some 1 := by kernel_rfl
theorem zt242 : zeroT Tryz.prog 242 = some #[.nilFunc] := by kernel_rfl
theorem by243 : bytesT Tryz.prog 243 = some 8 := by kernel_rfl
theorem sz244 : sizeT Tryz.prog 244 = some 20 := by kernel_rfl
theorem cc244 : concT Tryz.prog 244 = true := by kernel_rfl
theorem sz245 : sizeT Tryz.prog 245 = some 65 := by kernel_rfl
theorem cc245 : concT Tryz.prog 245 = true := by kernel_rfl
theorem sz246 : sizeT Tryz.prog 246 = some 1 := by kernel_rfl
theorem zt246 : zeroT Tryz.prog 246 = some #[.nilFunc] := by kernel_rfl
theorem by248 : bytesT Tryz.prog 248 = some 8 := by kernel_rfl
theorem sz249 : sizeT Tryz.prog 249 = some 1 := by kernel_rfl
theorem zt249 : zeroT Tryz.prog 249 = some #[.nilFunc] := by kernel_rfl
theorem by251 : bytesT Tryz.prog 251 = some 8 := by kernel_rfl
theorem sz252 : sizeT Tryz.prog 252 = some 1 := by kernel_rfl
theorem cc252 : concT Tryz.prog 252 = true := by kernel_rfl
theorem kn253 : knownT Tryz.prog 253 = true := by kernel_rfl
theorem fo253_0 : fOff Tryz.prog 253 0 = some 0 := by kernel_rfl
theorem sz254 : sizeT Tryz.prog 254 = some 1 := by kernel_rfl
theorem fk254 : fieldsOkT Tryz.prog 254 = true := by kernel_rfl
theorem ag255 : aggT Tryz.prog 255 = some false := by kernel_rfl
theorem cc255 : concT Tryz.prog 255 = true := by kernel_rfl
theorem kn257 : knownT Tryz.prog 257 = true := by kernel_rfl
theorem ag258 : aggT Tryz.prog 258 = some false := by kernel_rfl
theorem cc258 : concT Tryz.prog 258 = true := by kernel_rfl
theorem kn260 : knownT Tryz.prog 260 = true := by kernel_rfl
theorem ag261 : aggT Tryz.prog 261 = some false := by kernel_rfl
theorem cc261 : concT Tryz.prog 261 = true := by kernel_rfl
theorem kn262 : knownT Tryz.prog 262 = true := by kernel_rfl
theorem ag263 : aggT Tryz.prog 263 = some false := by kernel_rfl
theorem cc263 : concT Tryz.prog 263 = true := by kernel_rfl
theorem kn264 : knownT Tryz.prog 264 = true := by kernel_rfl
theorem ag265 : aggT Tryz.prog 265 = some false := by kernel_rfl
theorem cc265 : concT Tryz.prog 265 = true := by kernel_rfl
theorem kn266 : knownT Tryz.prog 266 = true := by kernel_rfl
theorem fo266_0 : fOff Tryz.prog 266 0 = some 0 := by kernel_rfl
theorem fo266_2 : fOff Tryz.prog 266 2 = some 2 := by kernel_rfl
theorem sz267 : sizeT Tryz.prog 267 = some 3 := by kernel_rfl
theorem fk267 : fieldsOkT Tryz.prog 267 = true := by kernel_rfl
theorem pl267_1 : placeT Tryz.prog 267 1 = some (1, 1) := by kernel_rfl
theorem ag268 : aggT Tryz.prog 268 = some false := by kernel_rfl
theorem cc268 : concT Tryz.prog 268 = true := by kernel_rfl
theorem kn269 : knownT Tryz.prog 269 = true := by kernel_rfl
theorem ag270 : aggT Tryz.prog 270 = some false := by kernel_rfl
theorem cc270 : concT Tryz.prog 270 = true := by kernel_rfl
theorem kn271 : knownT Tryz.prog 271 = true := by kernel_rfl
theorem ag273 : aggT Tryz.prog 273 = some false := by kernel_rfl
theorem cc273 : concT Tryz.prog 273 = true := by kernel_rfl
theorem kn274 : knownT Tryz.prog 274 = true := by kernel_rfl
theorem ag275 : aggT Tryz.prog 275 = some false := by kernel_rfl
theorem cc275 : concT Tryz.prog 275 = true := by kernel_rfl
theorem kn276 : knownT Tryz.prog 276 = true := by kernel_rfl
theorem ag277 : aggT Tryz.prog 277 = some false := by kernel_rfl
theorem cc277 : concT Tryz.prog 277 = true := by kernel_rfl
theorem kn278 : knownT Tryz.prog 278 = true := by kernel_rfl
theorem ag279 : aggT Tryz.prog 279 = some false := by kernel_rfl
theorem cc279 : concT Tryz.prog 279 = true := by kernel_rfl
theorem kn280 : knownT Tryz.prog 280 = true := by kernel_rfl
theorem ag282 : aggT Tryz.prog 282 = some false := by kernel_rfl
theorem cc282 : concT Tryz.prog 282 = true := by kernel_rfl
theorem kn283 : knownT Tryz.prog 283 = true := by kernel_rfl
theorem ag285 : aggT Tryz.prog 285 = some false := by kernel_rfl
theorem cc285 : concT Tryz.prog 285 = true := by kernel_rfl
theorem kn286 : knownT Tryz.prog 286 = true := by kernel_rfl
theorem ag287 : aggT Tryz.prog 287 = some false := by kernel_rfl
theorem cc287 : concT Tryz.prog 287 = true := by kernel_rfl
theorem kn289 : knownT Tryz.prog 289 = true := by kernel_rfl
theorem ag290 : aggT Tryz.prog 290 = some false := by kernel_rfl
theorem cc290 : concT Tryz.prog 290 = true := by kernel_rfl
theorem kn291 : knownT Tryz.prog 291 = true := by kernel_rfl
theorem ag292 : aggT Tryz.prog 292 = some false := by kernel_rfl
theorem cc292 : concT Tryz.prog 292 = true := by kernel_rfl
theorem kn293 : knownT Tryz.prog 293 = true := by kernel_rfl
theorem fk293 : fieldsOkT Tryz.prog 293 = true := by kernel_rfl
theorem kn294 : knownT Tryz.prog 294 = true := by kernel_rfl
theorem ag295 : aggT Tryz.prog 295 = some false := by kernel_rfl
theorem cc295 : concT Tryz.prog 295 = true := by kernel_rfl
theorem kn296 : knownT Tryz.prog 296 = true := by kernel_rfl
theorem ag297 : aggT Tryz.prog 297 = some true := by kernel_rfl
theorem cc297 : concT Tryz.prog 297 = true := by kernel_rfl
theorem fo297_1 : fOff Tryz.prog 297 1 = some 1 := by kernel_rfl
theorem fo297_3 : fOff Tryz.prog 297 3 = some 3 := by kernel_rfl
theorem sz298 : sizeT Tryz.prog 298 = some 4 := by kernel_rfl
theorem fk298 : fieldsOkT Tryz.prog 298 = true := by kernel_rfl
theorem pl298_1 : placeT Tryz.prog 298 1 = some (1, 1) := by kernel_rfl
theorem pl298_3 : placeT Tryz.prog 298 3 = some (3, 1) := by kernel_rfl
theorem kn299 : knownT Tryz.prog 299 = true := by kernel_rfl
theorem zt299 : zeroT Tryz.prog 299 = some #[] := by kernel_rfl
theorem cc300 : concT Tryz.prog 300 = true := by kernel_rfl
theorem sz301 : sizeT Tryz.prog 301 = some 0 := by kernel_rfl
theorem zt301 : zeroT Tryz.prog 301 = some #[] := by kernel_rfl
theorem by302 : bytesT Tryz.prog 302 = some 1 := by kernel_rfl
theorem zt302 : zeroT Tryz.prog 302 = some #[.int .u8 0] := by kernel_rfl
theorem by303 : bytesT Tryz.prog 303 = some 1 := by kernel_rfl
theorem zt303 : zeroT Tryz.prog 303 = some #[.int .u8 0] := by kernel_rfl
theorem by304 : bytesT Tryz.prog 304 = some 8 := by kernel_rfl
theorem sz305 : sizeT Tryz.prog 305 = some 1 := by kernel_rfl
theorem cc305 : concT Tryz.prog 305 = true := by kernel_rfl
theorem kn306 : knownT Tryz.prog 306 = true := by kernel_rfl
theorem zt306 : zeroT Tryz.prog 306 = some #[.int .i32 0] := by kernel_rfl
theorem by307 : bytesT Tryz.prog 307 = some 48 := by kernel_rfl
theorem pl307_0 : placeT Tryz.prog 307 0 = some (0, 1) := by kernel_rfl
theorem pl307_2 : placeT Tryz.prog 307 2 = some (2, 1) := by kernel_rfl
theorem pl307_4 : placeT Tryz.prog 307 4 = some (4, 1) := by kernel_rfl
theorem pl307_6 : placeT Tryz.prog 307 6 = some (6, 1) := by kernel_rfl
theorem pl307_8 : placeT Tryz.prog 307 8 = some (8, 1) := by kernel_rfl
theorem pl307_10 : placeT Tryz.prog 307 10 = some (10, 1) := by kernel_rfl
theorem kn308 : knownT Tryz.prog 308 = true := by kernel_rfl
theorem fo308_0 : fOff Tryz.prog 308 0 = some 0 := by kernel_rfl
theorem fo308_2 : fOff Tryz.prog 308 2 = some 2 := by kernel_rfl
theorem fo308_4 : fOff Tryz.prog 308 4 = some 4 := by kernel_rfl
theorem fo308_6 : fOff Tryz.prog 308 6 = some 6 := by kernel_rfl
theorem fo308_8 : fOff Tryz.prog 308 8 = some 8 := by kernel_rfl
theorem fo308_10 : fOff Tryz.prog 308 10 = some 10 := by kernel_rfl
theorem sz309 : sizeT Tryz.prog 309 = some 1 := by kernel_rfl
theorem zt309 : zeroT Tryz.prog 309 = some #[.nilFunc] := by kernel_rfl
theorem cl5 : Callable Tryz.prog 5 := ⟨_, Tryz.func5, by kernel_rfl, by kernel_rfl⟩
theorem cl9 : Callable Tryz.prog 9 := ⟨_, Tryz.func9, by kernel_rfl, by kernel_rfl⟩
theorem cl13 : Callable Tryz.prog 13 := ⟨_, Tryz.func13, by kernel_rfl, by kernel_rfl⟩
theorem cl17 : Callable Tryz.prog 17 := ⟨_, Tryz.func17, by kernel_rfl, by kernel_rfl⟩
theorem cl21 : Callable Tryz.prog 21 := ⟨_, Tryz.func21, by kernel_rfl, by kernel_rfl⟩
theorem cl25 : Callable Tryz.prog 25 := ⟨_, Tryz.func25, by kernel_rfl, by kernel_rfl⟩
theorem cl29 : Callable Tryz.prog 29 := ⟨_, Tryz.func29, by kernel_rfl, by kernel_rfl⟩
theorem cl33 : Callable Tryz.prog 33 := ⟨_, Tryz.func33, by kernel_rfl, by kernel_rfl⟩
theorem cl37 : Callable Tryz.prog 37 := ⟨_, Tryz.func37, by kernel_rfl, by kernel_rfl⟩
theorem cl41 : Callable Tryz.prog 41 := ⟨_, Tryz.func41, by kernel_rfl, by kernel_rfl⟩
theorem cl45 : Callable Tryz.prog 45 := ⟨_, Tryz.func45, by kernel_rfl, by kernel_rfl⟩
theorem cl49 : Callable Tryz.prog 49 := ⟨_, Tryz.func49, by kernel_rfl, by kernel_rfl⟩
theorem cl53 : Callable Tryz.prog 53 := ⟨_, Tryz.func53, by kernel_rfl, by kernel_rfl⟩
theorem cl57 : Callable Tryz.prog 57 := ⟨_, Tryz.func57, by kernel_rfl, by kernel_rfl⟩
theorem cl61 : Callable Tryz.prog 61 := ⟨_, Tryz.func61, by kernel_rfl, by kernel_rfl⟩
theorem cl65 : Callable Tryz.prog 65 := ⟨_, Tryz.func65, by kernel_rfl, by kernel_rfl⟩
theorem cl69 : Callable Tryz.prog 69 := ⟨_, Tryz.func69, by kernel_rfl, by kernel_rfl⟩
theorem cl73 : Callable Tryz.prog 73 := ⟨_, Tryz.func73, by kernel_rfl, by kernel_rfl⟩
theorem cl77 : Callable Tryz.prog 77 := ⟨_, Tryz.func77, by kernel_rfl, by kernel_rfl⟩
theorem cl81 : Callable Tryz.prog 81 := ⟨_, Tryz.func81, by kernel_rfl, by kernel_rfl⟩
theorem cl85 : Callable Tryz.prog 85 := ⟨_, Tryz.func85, by kernel_rfl, by kernel_rfl⟩
theorem cl90 : Callable Tryz.prog 90 := ⟨_, Tryz.func90, by kernel_rfl, by kernel_rfl⟩
theorem cl94 : Callable Tryz.prog 94 := ⟨_, Tryz.func94, by kernel_rfl, by kernel_rfl⟩
theorem cl98 : Callable Tryz.prog 98 := ⟨_, Tryz.func98, by kernel_rfl, by kernel_rfl⟩
theorem cl102 : Callable Tryz.prog 102 := ⟨_, Tryz.func102, by kernel_rfl, by kernel_rfl⟩
theorem cl106 : Callable Tryz.prog 106 := ⟨_, Tryz.func106, by kernel_rfl, by kernel_rfl⟩
theorem cl110 : Callable Tryz.prog 110 := ⟨_, Tryz.func110, by kernel_rfl, by kernel_rfl⟩
theorem cl114 : Callable Tryz.prog 114 := ⟨_, Tryz.func114, by kernel_rfl, by kernel_rfl⟩
theorem cl118 : Callable Tryz.prog 118 := ⟨_, Tryz.func118, by kernel_rfl, by kernel_rfl⟩
theorem cl122 : Callable Tryz.prog 122 := ⟨_, Tryz.func122, by kernel_rfl, by kernel_rfl⟩
theorem cl126 : Callable Tryz.prog 126 := ⟨_, Tryz.func126, by kernel_rfl, by kernel_rfl⟩
theorem cl130 : Callable Tryz.prog 130 := ⟨_, Tryz.func130, by kernel_rfl, by kernel_rfl⟩
theorem cl134 : Callable Tryz.prog 134 := ⟨_, Tryz.func134, by kernel_rfl, by kernel_rfl⟩
theorem cl138 : Callable Tryz.prog 138 := ⟨_, Tryz.func138, by kernel_rfl, by kernel_rfl⟩
theorem cl142 : Callable Tryz.prog 142 := ⟨_, Tryz.func142, by kernel_rfl, by kernel_rfl⟩
theorem cl146 : Callable Tryz.prog 146 := ⟨_, Tryz.func146, by kernel_rfl, by kernel_rfl⟩
theorem cl150 : Callable Tryz.prog 150 := ⟨_, Tryz.func150, by kernel_rfl, by kernel_rfl⟩
theorem cl154 : Callable Tryz.prog 154 := ⟨_, Tryz.func154, by kernel_rfl, by kernel_rfl⟩
theorem cl158 : Callable Tryz.prog 158 := ⟨_, Tryz.func158, by kernel_rfl, by kernel_rfl⟩
theorem cl162 : Callable Tryz.prog 162 := ⟨_, Tryz.func162, by kernel_rfl, by kernel_rfl⟩
theorem cl166 : Callable Tryz.prog 166 := ⟨_, Tryz.func166, by kernel_rfl, by kernel_rfl⟩
theorem cl170 : Callable Tryz.prog 170 := ⟨_, Tryz.func170, by kernel_rfl, by kernel_rfl⟩
theorem cl174 : Callable Tryz.prog 174 := ⟨_, Tryz.func174, by kernel_rfl, by kernel_rfl⟩
theorem cl178 : Callable Tryz.prog 178 := ⟨_, Tryz.func178, by kernel_rfl, by kernel_rfl⟩
theorem cl183 : Callable Tryz.prog 183 := ⟨_, Tryz.func183, by kernel_rfl, by kernel_rfl⟩
theorem cl203 : Callable Tryz.prog 203 := ⟨_, Tryz.func203, by kernel_rfl, by kernel_rfl⟩
theorem mixed : Tryz.prog.follows .mixedOrders = true := by kernel_rfl
end Go.Fw
