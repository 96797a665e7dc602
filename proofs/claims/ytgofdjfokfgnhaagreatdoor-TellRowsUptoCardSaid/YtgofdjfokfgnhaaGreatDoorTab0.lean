/-
  A part of the proof: lemmas on which the theorem leans; nothing is claimed here by itself.
-/
import Derived.Test.YtgofdjfokfgnhaaGreatDoorFw
import Derived.Test.YtgofdjfokfgnhaaGreatDoorProg
namespace Go.Fw
open Go Go.Proofs
theorem ag1 : aggT Tryz.prog 1 = some false := by kernel_rfl
theorem cc1 : concT Tryz.prog 1 = true := by kernel_rfl
theorem kn2 : knownT Tryz.prog 2 = true := by kernel_rfl
theorem zt2 : zeroT Tryz.prog 2 = some #[.int .i64 0] := by kernel_rfl
theorem by3 : bytesT Tryz.prog 3 = some 8 := by kernel_rfl
theorem ag4 : aggT Tryz.prog 4 = some false := by kernel_rfl
theorem bt4 : boolT Tryz.prog 4 = true := by kernel_rfl
theorem sz5 : sizeT Tryz.prog 5 = some 1 := by kernel_rfl
theorem it5 : intT Tryz.prog 5 = some .u8 := by kernel_rfl
theorem sz6 : sizeT Tryz.prog 6 = some 1 := by kernel_rfl
theorem it6 : intT Tryz.prog 6 = some .u8 := by kernel_rfl
theorem sz7 : sizeT Tryz.prog 7 = some 4 := by kernel_rfl
theorem fk7 : fieldsOkT Tryz.prog 7 = true := by kernel_rfl
theorem pl7_1 : placeT Tryz.prog 7 1 = some (1, 1) := by kernel_rfl
theorem pl7_3 : placeT Tryz.prog 7 3 = some (3, 1) := by kernel_rfl
theorem kn8 : knownT Tryz.prog 8 = true := by kernel_rfl
theorem fo8_0 : fOff Tryz.prog 8 0 = some 0 := by kernel_rfl
theorem fo8_2 : fOff Tryz.prog 8 2 = some 2 := by kernel_rfl
theorem zt8 : zeroT Tryz.prog 8 = some #[.int .i64 0, .int .i64 0, .bool false, .int .u8 0] := by kernel_rfl
theorem by9 : bytesT Tryz.prog 9 = some 16 := by kernel_rfl
theorem zt9 : zeroT Tryz.prog 9 = some #[.string ByteArray.empty] := by kernel_rfl
theorem by10 : bytesT Tryz.prog 10 = some 16 := by kernel_rfl
theorem zt10 : zeroT Tryz.prog 10 = some #[.string ByteArray.empty] := by kernel_rfl
theorem by11 : bytesT Tryz.prog 11 = some 16 := by kernel_rfl
theorem zt11 : zeroT Tryz.prog 11 = some #[.string ByteArray.empty] := by kernel_rfl
theorem by12 : bytesT Tryz.prog 12 = some 8 := by kernel_rfl
theorem ag13 : aggT Tryz.prog 13 = some true := by kernel_rfl
theorem cc13 : concT Tryz.prog 13 = true := by kernel_rfl
theorem fo13_1 : fOff Tryz.prog 13 1 = some 1 := by kernel_rfl
theorem sz14 : sizeT Tryz.prog 14 = some 2 := by kernel_rfl
theorem fk14 : fieldsOkT Tryz.prog 14 = true := by kernel_rfl
theorem pl14_1 : placeT Tryz.prog 14 1 = some (1, 1) := by kernel_rfl
theorem kn15 : knownT Tryz.prog 15 = true := by kernel_rfl
theorem zt15 : zeroT Tryz.prog 15 = some #[.pointer none] := by kernel_rfl
theorem by16 : bytesT Tryz.prog 16 = some 8 := by kernel_rfl
theorem ag17 : aggT Tryz.prog 17 = some false := by kernel_rfl
theorem pt17 : ptrT Tryz.prog 17 = true := by kernel_rfl
theorem sz18 : sizeT Tryz.prog 18 = some 1 := by kernel_rfl
theorem fk18 : fieldsOkT Tryz.prog 18 = true := by kernel_rfl
theorem ag19 : aggT Tryz.prog 19 = some true := by kernel_rfl
theorem cc19 : concT Tryz.prog 19 = true := by kernel_rfl
theorem zt19 : zeroT Tryz.prog 19 = some #[.pointer none] := by kernel_rfl
theorem by20 : bytesT Tryz.prog 20 = some 16 := by kernel_rfl
theorem kn21 : knownT Tryz.prog 21 = true := by kernel_rfl
theorem zt21 : zeroT Tryz.prog 21 = some #[.int .i32 0] := by kernel_rfl
theorem by22 : bytesT Tryz.prog 22 = some 8 := by kernel_rfl
theorem ag23 : aggT Tryz.prog 23 = some false := by kernel_rfl
theorem ni23 : notInt Tryz.prog 23 = true := by kernel_rfl
theorem cc23 : concT Tryz.prog 23 = true := by kernel_rfl
theorem kn24 : knownT Tryz.prog 24 = true := by kernel_rfl
theorem si24 : (slT Tryz.prog 24).isSome = true := by kernel_rfl
theorem ag25 : aggT Tryz.prog 25 = some true := by kernel_rfl
theorem cc25 : concT Tryz.prog 25 = true := by kernel_rfl
theorem fo25_1 : fOff Tryz.prog 25 1 = some 1 := by kernel_rfl
theorem fo25_3 : fOff Tryz.prog 25 3 = some 3 := by kernel_rfl
theorem zt25 : zeroT Tryz.prog 25 = some #[.int .i64 0, .int .i64 0, .string ByteArray.empty, .slice none 0 0, .slice none 0 0] := by kernel_rfl
theorem by26 : bytesT Tryz.prog 26 = some 80 := by kernel_rfl
theorem pl26_0 : placeT Tryz.prog 26 0 = some (0, 1) := by kernel_rfl
theorem pl26_2 : placeT Tryz.prog 26 2 = some (2, 1) := by kernel_rfl
theorem pl26_4 : placeT Tryz.prog 26 4 = some (4, 1) := by kernel_rfl
theorem kn27 : knownT Tryz.prog 27 = true := by kernel_rfl
theorem ag28 : aggT Tryz.prog 28 = some false := by kernel_rfl
theorem cc28 : concT Tryz.prog 28 = true := by kernel_rfl
theorem kn29 : knownT Tryz.prog 29 = true := by kernel_rfl
theorem ag30 : aggT Tryz.prog 30 = some true := by kernel_rfl
theorem cc30 : concT Tryz.prog 30 = true := by kernel_rfl
theorem fo30_1 : fOff Tryz.prog 30 1 = some 1 := by kernel_rfl
theorem zt30 : zeroT Tryz.prog 30 = some #[.int .i64 0, .string ByteArray.empty, .string ByteArray.empty] := by kernel_rfl
theorem by31 : bytesT Tryz.prog 31 = some 40 := by kernel_rfl
theorem pl31_0 : placeT Tryz.prog 31 0 = some (0, 1) := by kernel_rfl
theorem pl31_2 : placeT Tryz.prog 31 2 = some (2, 1) := by kernel_rfl
theorem kn32 : knownT Tryz.prog 32 = true := by kernel_rfl
theorem ag33 : aggT Tryz.prog 33 = some false := by kernel_rfl
theorem cc33 : concT Tryz.prog 33 = true := by kernel_rfl
theorem kn34 : knownT Tryz.prog 34 = true := by kernel_rfl
theorem ag35 : aggT Tryz.prog 35 = some false := by kernel_rfl
theorem cc35 : concT Tryz.prog 35 = true := by kernel_rfl
theorem kn36 : knownT Tryz.prog 36 = true := by kernel_rfl
theorem si36 : (slT Tryz.prog 36).isSome = true := by kernel_rfl
theorem ag37 : aggT Tryz.prog 37 = some false := by kernel_rfl
theorem cc37 : concT Tryz.prog 37 = true := by kernel_rfl
theorem kn38 : knownT Tryz.prog 38 = true := by kernel_rfl
theorem zt38 : zeroT Tryz.prog 38 = some #[.pointer none] := by kernel_rfl
theorem by39 : bytesT Tryz.prog 39 = some 8 := by kernel_rfl
theorem sz40 : sizeT Tryz.prog 40 = some 1 := by kernel_rfl
theorem cc40 : concT Tryz.prog 40 = true := by kernel_rfl
theorem kn41 : knownT Tryz.prog 41 = true := by kernel_rfl
theorem si41 : (slT Tryz.prog 41).isSome = true := by kernel_rfl
theorem ag42 : aggT Tryz.prog 42 = some true := by kernel_rfl
theorem ar42 : arN Tryz.prog 42 = some (4, 1) := by kernel_rfl
theorem ag43 : aggT Tryz.prog 43 = some true := by kernel_rfl
theorem cc43 : concT Tryz.prog 43 = true := by kernel_rfl
theorem zt43 : zeroT Tryz.prog 43 = some #[.slice none 0 0, .slice none 0 0, .slice none 0 0, .slice none 0 0] := by kernel_rfl
theorem by44 : bytesT Tryz.prog 44 = some 96 := by kernel_rfl
theorem pl44_0 : placeT Tryz.prog 44 0 = some (0, 4) := by kernel_rfl
theorem kn45 : knownT Tryz.prog 45 = true := by kernel_rfl
theorem fo45_0 : fOff Tryz.prog 45 0 = some 0 := by kernel_rfl
theorem sz46 : sizeT Tryz.prog 46 = some 1 := by kernel_rfl
theorem fk46 : fieldsOkT Tryz.prog 46 = true := by kernel_rfl
theorem ag47 : aggT Tryz.prog 47 = some false := by kernel_rfl
theorem it47 : intT Tryz.prog 47 = some .u64 := by kernel_rfl
theorem sz48 : sizeT Tryz.prog 48 = some 10 := by kernel_rfl
theorem fk48 : fieldsOkT Tryz.prog 48 = true := by kernel_rfl
theorem pl48_1 : placeT Tryz.prog 48 1 = some (1, 1) := by kernel_rfl
theorem pl48_3 : placeT Tryz.prog 48 3 = some (3, 3) := by kernel_rfl
theorem pl48_5 : placeT Tryz.prog 48 5 = some (7, 1) := by kernel_rfl
theorem pl48_7 : placeT Tryz.prog 48 7 = some (9, 1) := by kernel_rfl
theorem kn49 : knownT Tryz.prog 49 = true := by kernel_rfl
theorem fo49_0 : fOff Tryz.prog 49 0 = some 0 := by kernel_rfl
theorem fo49_2 : fOff Tryz.prog 49 2 = some 2 := by kernel_rfl
theorem fo49_4 : fOff Tryz.prog 49 4 = some 6 := by kernel_rfl
theorem fo49_6 : fOff Tryz.prog 49 6 = some 8 := by kernel_rfl
theorem zt49 : zeroT Tryz.prog 49 = some #[.int .i64 0, .int .i64 0, .int .i64 0, .int .i64 0, .string ByteArray.empty, .string ByteArray.empty, .string ByteArray.empty, .int .i64 0, .int .u64 0, .slice none 0 0] := by kernel_rfl
theorem by50 : bytesT Tryz.prog 50 = some 136 := by kernel_rfl
theorem pl50_0 : placeT Tryz.prog 50 0 = some (0, 10) := by kernel_rfl
theorem pl50_2 : placeT Tryz.prog 50 2 = some (11, 1) := by kernel_rfl
theorem kn51 : knownT Tryz.prog 51 = true := by kernel_rfl
theorem fo51_0 : fOff Tryz.prog 51 0 = some 0 := by kernel_rfl
theorem fo51_2 : fOff Tryz.prog 51 2 = some 11 := by kernel_rfl
theorem sz52 : sizeT Tryz.prog 52 = some 1 := by kernel_rfl
theorem zt52 : zeroT Tryz.prog 52 = some #[.nilFunc] := by kernel_rfl
theorem by53 : bytesT Tryz.prog 53 = some 8 := by kernel_rfl
theorem sz54 : sizeT Tryz.prog 54 = some 1 := by kernel_rfl
theorem zt54 : zeroT Tryz.prog 54 = some #[.nilFunc] := by kernel_rfl
theorem by55 : bytesT Tryz.prog 55 = some 8 := by kernel_rfl
theorem sz56 : sizeT Tryz.prog 56 = some 1 := by kernel_rfl
theorem zt56 : zeroT Tryz.prog 56 = some #[.nilFunc] := by kernel_rfl
theorem by57 : bytesT Tryz.prog 57 = some 8 := by kernel_rfl
theorem sz58 : sizeT Tryz.prog 58 = some 1 := by kernel_rfl
theorem zt58 : zeroT Tryz.prog 58 = some #[.nilFunc] := by kernel_rfl
theorem by59 : bytesT Tryz.prog 59 = some 24 := by kernel_rfl
theorem se59 : slE Tryz.prog 59 = some 10 := by kernel_rfl
theorem sz60 : sizeT Tryz.prog 60 = some 1 := by kernel_rfl
theorem zt60 : zeroT Tryz.prog 60 = some #[.nilFunc] := by kernel_rfl
theorem by61 : bytesT Tryz.prog 61 = some 8 := by kernel_rfl
theorem sz62 : sizeT Tryz.prog 62 = some 1 := by kernel_rfl
theorem cc62 : concT Tryz.prog 62 = true := by kernel_rfl
theorem kn63 : knownT Tryz.prog 63 = true := by kernel_rfl
theorem cc63 : concT Tryz.prog 63 = true := by kernel_rfl
theorem kn64 : knownT Tryz.prog 64 = true := by kernel_rfl
theorem si64 : (slT Tryz.prog 64).isSome = true := by kernel_rfl
theorem ag65 : aggT Tryz.prog 65 = some true := by kernel_rfl
theorem cc65 : concT Tryz.prog 65 = true := by kernel_rfl
theorem fo65_1 : fOff Tryz.prog 65 1 = some 1 := by kernel_rfl
theorem zt65 : zeroT Tryz.prog 65 = some #[.int .i64 0, .string ByteArray.empty, .string ByteArray.empty] := by kernel_rfl
theorem by66 : bytesT Tryz.prog 66 = some 16 := by kernel_rfl
theorem kn67 : knownT Tryz.prog 67 = true := by kernel_rfl
theorem sz70 : sizeT Tryz.prog 70 = some 1 := by kernel_rfl
theorem zt70 : zeroT Tryz.prog 70 = some #[.nilFunc] := by kernel_rfl
theorem by71 : bytesT Tryz.prog 71 = some 8 := by kernel_rfl
theorem ag72 : aggT Tryz.prog 72 = some false := by kernel_rfl
theorem cc72 : concT Tryz.prog 72 = true := by kernel_rfl
theorem kn73 : knownT Tryz.prog 73 = true := by kernel_rfl
theorem zt73 : zeroT Tryz.prog 73 = some #[.pointer none] := by kernel_rfl
theorem by74 : bytesT Tryz.prog 74 = some 8 := by kernel_rfl
theorem ag75 : aggT Tryz.prog 75 = some true := by kernel_rfl
theorem cc75 : concT Tryz.prog 75 = true := by kernel_rfl
theorem fo75_1 : fOff Tryz.prog 75 1 = some 1 := by kernel_rfl
theorem sz76 : sizeT Tryz.prog 76 = some 2 := by kernel_rfl
theorem fk76 : fieldsOkT Tryz.prog 76 = true := by kernel_rfl
theorem pl76_1 : placeT Tryz.prog 76 1 = some (1, 1) := by kernel_rfl
theorem kn77 : knownT Tryz.prog 77 = true := by kernel_rfl
theorem fo77_0 : fOff Tryz.prog 77 0 = some 0 := by kernel_rfl
theorem fo77_2 : fOff Tryz.prog 77 2 = some 2 := by kernel_rfl
theorem zt77 : zeroT Tryz.prog 77 = some #[.pointer none, .pointer none, .int .i64 0, .int .u64 0, .bool false] := by kernel_rfl
theorem by78 : bytesT Tryz.prog 78 = some 40 := by kernel_rfl
theorem pl78_0 : placeT Tryz.prog 78 0 = some (0, 1) := by kernel_rfl
theorem pl78_2 : placeT Tryz.prog 78 2 = some (2, 2) := by kernel_rfl
theorem ag79 : aggT Tryz.prog 79 = some true := by kernel_rfl
theorem ar79 : arN Tryz.prog 79 = some (4, 5) := by kernel_rfl
theorem ag80 : aggT Tryz.prog 80 = some true := by kernel_rfl
theorem cc80 : concT Tryz.prog 80 = true := by kernel_rfl
theorem fo80_1 : fOff Tryz.prog 80 1 = some 1 := by kernel_rfl
theorem zt80 : zeroT Tryz.prog 80 = some #[.pointer none, .pointer none, .pointer none, .int .i64 0, .int .u64 0, .bool false, .pointer none, .pointer none, .int .i64 0, .int .u64 0, .bool false, .pointer none, .pointer none, .int .i64 0, .int .u64 0, .bool false, .pointer none, .pointer none, .int .i64 0, .int .u64 0, .bool false, .int .i64 0] := by kernel_rfl
theorem by81 : bytesT Tryz.prog 81 = some 176 := by kernel_rfl
theorem pl81_0 : placeT Tryz.prog 81 0 = some (0, 1) := by kernel_rfl
theorem pl81_2 : placeT Tryz.prog 81 2 = some (21, 1) := by kernel_rfl
theorem kn82 : knownT Tryz.prog 82 = true := by kernel_rfl
theorem zt82 : zeroT Tryz.prog 82 = some #[.pointer none] := by kernel_rfl
theorem by83 : bytesT Tryz.prog 83 = some 8 := by kernel_rfl
theorem sz84 : sizeT Tryz.prog 84 = some 1 := by kernel_rfl
theorem zt84 : zeroT Tryz.prog 84 = some #[.nilFunc] := by kernel_rfl
theorem by85 : bytesT Tryz.prog 85 = some 8 := by kernel_rfl
theorem sz86 : sizeT Tryz.prog 86 = some 1 := by kernel_rfl
theorem zt86 : zeroT Tryz.prog 86 = some #[.nilFunc] := by kernel_rfl
theorem by87 : bytesT Tryz.prog 87 = some 8 := by kernel_rfl
theorem ag88 : aggT Tryz.prog 88 = some false := by kernel_rfl
theorem cc88 : concT Tryz.prog 88 = true := by kernel_rfl
theorem kn89 : knownT Tryz.prog 89 = true := by kernel_rfl
theorem zt89 : zeroT Tryz.prog 89 = some #[.pointer none] := by kernel_rfl
theorem by90 : bytesT Tryz.prog 90 = some 32 := by kernel_rfl
theorem pl90_0 : placeT Tryz.prog 90 0 = some (0, 1) := by kernel_rfl
theorem ag91 : aggT Tryz.prog 91 = some true := by kernel_rfl
theorem cc91 : concT Tryz.prog 91 = true := by kernel_rfl
theorem fo91_1 : fOff Tryz.prog 91 1 = some 1 := by kernel_rfl
theorem sz92 : sizeT Tryz.prog 92 = some 1 := by kernel_rfl
theorem ag93 : aggT Tryz.prog 93 = some false := by kernel_rfl
theorem zt93 : zeroT Tryz.prog 93 = some #[.nilIface] := by kernel_rfl
theorem by95 : bytesT Tryz.prog 95 = some 8 := by kernel_rfl
theorem sz96 : sizeT Tryz.prog 96 = some 1 := by kernel_rfl
theorem zt96 : zeroT Tryz.prog 96 = some #[.nilFunc] := by kernel_rfl
theorem by97 : bytesT Tryz.prog 97 = some 8 := by kernel_rfl
theorem sz98 : sizeT Tryz.prog 98 = some 1 := by kernel_rfl
theorem cc98 : concT Tryz.prog 98 = true := by kernel_rfl
theorem kn99 : knownT Tryz.prog 99 = true := by kernel_rfl
theorem ag100 : aggT Tryz.prog 100 = some false := by kernel_rfl
theorem cc100 : concT Tryz.prog 100 = true := by kernel_rfl
theorem kn101 : knownT Tryz.prog 101 = true := by kernel_rfl
theorem ag102 : aggT Tryz.prog 102 = some false := by kernel_rfl
theorem ni102 : notInt Tryz.prog 102 = true := by kernel_rfl
theorem cc102 : concT Tryz.prog 102 = true := by kernel_rfl
theorem kn103 : knownT Tryz.prog 103 = true := by kernel_rfl
theorem si103 : (slT Tryz.prog 103).isSome = true := by kernel_rfl
theorem ag104 : aggT Tryz.prog 104 = some true := by kernel_rfl
theorem cc104 : concT Tryz.prog 104 = true := by kernel_rfl
theorem fo104_1 : fOff Tryz.prog 104 1 = some 1 := by kernel_rfl
theorem fo104_3 : fOff Tryz.prog 104 3 = some 3 := by kernel_rfl
theorem sz105 : sizeT Tryz.prog 105 = some 4 := by kernel_rfl
theorem fk105 : fieldsOkT Tryz.prog 105 = true := by kernel_rfl
theorem pl105_1 : placeT Tryz.prog 105 1 = some (1, 1) := by kernel_rfl
theorem pl105_3 : placeT Tryz.prog 105 3 = some (3, 1) := by kernel_rfl
theorem kn106 : knownT Tryz.prog 106 = true := by kernel_rfl
theorem ag107 : aggT Tryz.prog 107 = some false := by kernel_rfl
theorem cc107 : concT Tryz.prog 107 = true := by kernel_rfl
theorem kn108 : knownT Tryz.prog 108 = true := by kernel_rfl
theorem si108 : (slT Tryz.prog 108).isSome = true := by kernel_rfl
theorem ag109 : aggT Tryz.prog 109 = some true := by kernel_rfl
theorem cc109 : concT Tryz.prog 109 = true := by kernel_rfl
theorem fo109_1 : fOff Tryz.prog 109 1 = some 1 := by kernel_rfl
theorem zt109 : zeroT Tryz.prog 109 = some #[.slice none 0 0, .bool false, .int .i64 0] := by kernel_rfl
theorem by110 : bytesT Tryz.prog 110 = some 40 := by kernel_rfl
theorem pl110_0 : placeT Tryz.prog 110 0 = some (0, 1) := by kernel_rfl
theorem pl110_2 : placeT Tryz.prog 110 2 = some (2, 1) := by kernel_rfl
theorem kn111 : knownT Tryz.prog 111 = true := by kernel_rfl
theorem ag112 : aggT Tryz.prog 112 = some false := by kernel_rfl
theorem cc112 : concT Tryz.prog 112 = true := by kernel_rfl
theorem kn114 : knownT Tryz.prog 114 = true := by kernel_rfl
theorem ag115 : aggT Tryz.prog 115 = some false := by kernel_rfl
theorem cc115 : concT Tryz.prog 115 = true := by kernel_rfl
theorem kn116 : knownT Tryz.prog 116 = true := by kernel_rfl
theorem zt116 : zeroT Tryz.prog 116 = some #[.pointer none] := by kernel_rfl
theorem by117 : bytesT Tryz.prog 117 = some 8 := by kernel_rfl
theorem ag118 : aggT Tryz.prog 118 = some true := by kernel_rfl
theorem ar118 : arN Tryz.prog 118 = some (4, 1) := by kernel_rfl
theorem ag119 : aggT Tryz.prog 119 = some true := by kernel_rfl
theorem cc119 : concT Tryz.prog 119 = true := by kernel_rfl
theorem zt119 : zeroT Tryz.prog 119 = some #[.pointer none, .pointer none, .pointer none, .pointer none] := by kernel_rfl
theorem by120 : bytesT Tryz.prog 120 = some 32 := by kernel_rfl
theorem pl120_0 : placeT Tryz.prog 120 0 = some (0, 4) := by kernel_rfl
theorem kn121 : knownT Tryz.prog 121 = true := by kernel_rfl
theorem zt121 : zeroT Tryz.prog 121 = some #[.pointer none] := by kernel_rfl
theorem by122 : bytesT Tryz.prog 122 = some 8 := by kernel_rfl
theorem ag123 : aggT Tryz.prog 123 = some false := by kernel_rfl
theorem ni123 : notInt Tryz.prog 123 = true := by kernel_rfl
theorem cc123 : concT Tryz.prog 123 = true := by kernel_rfl
theorem kn124 : knownT Tryz.prog 124 = true := by kernel_rfl
theorem fo124_0 : fOff Tryz.prog 124 0 = some 0 := by kernel_rfl
theorem sz125 : sizeT Tryz.prog 125 = some 1 := by kernel_rfl
theorem fk125 : fieldsOkT Tryz.prog 125 = true := by kernel_rfl
theorem ag126 : aggT Tryz.prog 126 = some true := by kernel_rfl
theorem cc126 : concT Tryz.prog 126 = true := by kernel_rfl
theorem fo126_1 : fOff Tryz.prog 126 1 = some 1 := by kernel_rfl
theorem fo126_3 : fOff Tryz.prog 126 3 = some 6 := by kernel_rfl
theorem fo126_5 : fOff Tryz.prog 126 5 = some 8 := by kernel_rfl
theorem sz127 : sizeT Tryz.prog 127 = some 9 := by kernel_rfl
theorem fk127 : fieldsOkT Tryz.prog 127 = true := by kernel_rfl
theorem pl127_1 : placeT Tryz.prog 127 1 = some (1, 4) := by kernel_rfl
theorem pl127_3 : placeT Tryz.prog 127 3 = some (6, 1) := by kernel_rfl
theorem pl127_5 : placeT Tryz.prog 127 5 = some (8, 1) := by kernel_rfl
theorem kn128 : knownT Tryz.prog 128 = true := by kernel_rfl
theorem ag129 : aggT Tryz.prog 129 = some false := by kernel_rfl
theorem cc129 : concT Tryz.prog 129 = true := by kernel_rfl
theorem kn130 : knownT Tryz.prog 130 = true := by kernel_rfl
theorem ag131 : aggT Tryz.prog 131 = some false := by kernel_rfl
theorem cc131 : concT Tryz.prog 131 = true := by kernel_rfl
theorem kn132 : knownT Tryz.prog 132 = true := by kernel_rfl
theorem zt132 : zeroT Tryz.prog 132 = some #[.pointer none] := by kernel_rfl
theorem by133 : bytesT Tryz.prog 133 = some 32 := by kernel_rfl
theorem pl133_0 : placeT Tryz.prog 133 0 = some (0, 1) := by kernel_rfl
theorem ag134 : aggT Tryz.prog 134 = some true := by kernel_rfl
theorem cc134 : concT Tryz.prog 134 = true := by kernel_rfl
theorem fo134_1 : fOff Tryz.prog 134 1 = some 1 := by kernel_rfl
theorem sz135 : sizeT Tryz.prog 135 = some 1 := by kernel_rfl
theorem zt135 : zeroT Tryz.prog 135 = some #[.nilFunc] := by kernel_rfl
theorem by136 : bytesT Tryz.prog 136 = some 8 := by kernel_rfl
theorem ag137 : aggT Tryz.prog 137 = some false := by kernel_rfl
theorem cc137 : concT Tryz.prog 137 = true := by kernel_rfl
theorem kn139 : knownT Tryz.prog 139 = true := by kernel_rfl
theorem ag141 : aggT Tryz.prog 141 = some false := by kernel_rfl
theorem cc141 : concT Tryz.prog 141 = true := by kernel_rfl
theorem kn142 : knownT Tryz.prog 142 = true := by kernel_rfl
theorem ag143 : aggT Tryz.prog 143 = some false := by kernel_rfl
theorem cc143 : concT Tryz.prog 143 = true := by kernel_rfl
theorem kn144 : knownT Tryz.prog 144 = true := by kernel_rfl
theorem zt144 : zeroT Tryz.prog 144 = some #[.pointer none] := by kernel_rfl
theorem by145 : bytesT Tryz.prog 145 = some 64 := by kernel_rfl
theorem zt145 : zeroT Tryz.prog 145 = some #[.int .u8 0, .int .u8 0, .int .u8 0, .int .u8 0, .int .u8 0, .int .u8 0, .int .u8 0, .int .u8 0, .int .u8 0, .int .u8 0, .int .u8 0, .int .u8 0, .int .u8 0, .int .u8 0, .int .u8 0, .int .u8 0, .int .u8 0, .int .u8 0, .int .u8 0, .int .u8 0, .int .u8 0, .int .u8 0, .int .u8 0, .int .u8 0, .int .u8 0, .int .u8 0, .int .u8 0, .int .u8 0, .int .u8 0, .int .u8 0, .int .u8 0, .int .u8 0, .int .u8 0, .int .u8 0, .int .u8 0, .int .u8 0, .int .u8 0, .int .u8 0, .int .u8 0, .int .u8 0, .int .u8 0, .int .u8 0, .int .u8 0, .int .u8 0, .int .u8 0, .int .u8 0, .int .u8 0, .int .u8 0, .int .u8 0, .int .u8 0, .int .u8 0, .int .u8 0, .int .u8 0, .int .u8 0, .int .u8 0, .int .u8 0, .int .u8 0, .int .u8 0, .int .u8 0, .int .u8 0, .int .u8 0, .int .u8 0, .int .u8 0, .int .u8 0] := by kernel_rfl
theorem by146 : bytesT Tryz.prog 146 = some 72 := by kernel_rfl
theorem pl146_0 : placeT Tryz.prog 146 0 = some (0, 1) := by kernel_rfl
theorem ag147 : aggT Tryz.prog 147 = some true := by kernel_rfl
theorem cc147 : concT Tryz.prog 147 = true := by kernel_rfl
theorem fo147_1 : fOff Tryz.prog 147 1 = some 1 := by kernel_rfl
theorem sz148 : sizeT Tryz.prog 148 = some 1 := by kernel_rfl
theorem zt148 : zeroT Tryz.prog 148 = some #[.nilFunc] := by kernel_rfl
theorem by149 : bytesT Tryz.prog 149 = some 8 := by kernel_rfl
theorem sz150 : sizeT Tryz.prog 150 = some 1 := by kernel_rfl
theorem zt150 : zeroT Tryz.prog 150 = some #[.nilFunc] := by kernel_rfl
theorem by151 : bytesT Tryz.prog 151 = some 4 := by kernel_rfl
theorem ag152 : aggT Tryz.prog 152 = some false := by kernel_rfl
theorem cc152 : concT Tryz.prog 152 = true := by kernel_rfl
theorem kn153 : knownT Tryz.prog 153 = true := by kernel_rfl
theorem ag154 : aggT Tryz.prog 154 = some false := by kernel_rfl
theorem cc154 : concT Tryz.prog 154 = true := by kernel_rfl
theorem kn155 : knownT Tryz.prog 155 = true := by kernel_rfl
theorem zt155 : zeroT Tryz.prog 155 = some #[.pointer none] := by kernel_rfl
theorem by156 : bytesT Tryz.prog 156 = some 8 := by kernel_rfl
theorem sz157 : sizeT Tryz.prog 157 = some 5 := by kernel_rfl
theorem fk157 : fieldsOkT Tryz.prog 157 = true := by kernel_rfl
theorem pl157_1 : placeT Tryz.prog 157 1 = some (3, 1) := by kernel_rfl
theorem ag158 : aggT Tryz.prog 158 = some true := by kernel_rfl
theorem cc158 : concT Tryz.prog 158 = true := by kernel_rfl
theorem fo158_1 : fOff Tryz.prog 158 1 = some 3 := by kernel_rfl
theorem zt158 : zeroT Tryz.prog 158 = some #[.int .i64 0, .string ByteArray.empty, .string ByteArray.empty, .int .i64 0, .int .i64 0] := by kernel_rfl
theorem by159 : bytesT Tryz.prog 159 = some 8 := by kernel_rfl
theorem ag160 : aggT Tryz.prog 160 = some true := by kernel_rfl
theorem cc160 : concT Tryz.prog 160 = true := by kernel_rfl
theorem fo160_1 : fOff Tryz.prog 160 1 = some 1 := by kernel_rfl
theorem zt160 : zeroT Tryz.prog 160 = some #[.int .i64 0, .int .i64 0, .map none] := by kernel_rfl
theorem by161 : bytesT Tryz.prog 161 = some 24 := by kernel_rfl
theorem pl161_0 : placeT Tryz.prog 161 0 = some (0, 1) := by kernel_rfl
theorem pl161_2 : placeT Tryz.prog 161 2 = some (2, 1) := by kernel_rfl
theorem kn163 : knownT Tryz.prog 163 = true := by kernel_rfl
theorem ag164 : aggT Tryz.prog 164 = some false := by kernel_rfl
theorem ni164 : notInt Tryz.prog 164 = true := by kernel_rfl
theorem cc164 : concT Tryz.prog 164 = true := by kernel_rfl
theorem kn165 : knownT Tryz.prog 165 = true := by kernel_rfl
theorem ag166 : aggT Tryz.prog 166 = some true := by kernel_rfl
theorem cc166 : concT Tryz.prog 166 = true := by kernel_rfl
theorem fo166_1 : fOff Tryz.prog 166 1 = some 1 := by kernel_rfl
theorem fo166_3 : fOff Tryz.prog 166 3 = some 3 := by kernel_rfl
theorem fo166_5 : fOff Tryz.prog 166 5 = some 5 := by kernel_rfl
theorem fo166_7 : fOff Tryz.prog 166 7 = some 7 := by kernel_rfl
theorem sz167 : sizeT Tryz.prog 167 = some 8 := by kernel_rfl
theorem fk167 : fieldsOkT Tryz.prog 167 = true := by kernel_rfl
theorem pl167_1 : placeT Tryz.prog 167 1 = some (1, 1) := by kernel_rfl
theorem pl167_3 : placeT Tryz.prog 167 3 = some (3, 1) := by kernel_rfl
theorem pl167_5 : placeT Tryz.prog 167 5 = some (5, 1) := by kernel_rfl
theorem pl167_7 : placeT Tryz.prog 167 7 = some (7, 1) := by kernel_rfl
theorem kn168 : knownT Tryz.prog 168 = true := by kernel_rfl
theorem si168 : (slT Tryz.prog 168).isSome = true := by kernel_rfl
theorem ag169 : aggT Tryz.prog 169 = some false := by kernel_rfl
theorem cc169 : concT Tryz.prog 169 = true := by kernel_rfl
theorem kn170 : knownT Tryz.prog 170 = true := by kernel_rfl
theorem si170 : (slT Tryz.prog 170).isSome = true := by kernel_rfl
theorem ag171 : aggT Tryz.prog 171 = some false := by kernel_rfl
theorem cc171 : concT Tryz.prog 171 = true := by kernel_rfl
theorem kn172 : knownT Tryz.prog 172 = true := by kernel_rfl
theorem fo172_0 : fOff Tryz.prog 172 0 = some 0 := by kernel_rfl
theorem fo172_2 : fOff Tryz.prog 172 2 = some 2 := by kernel_rfl
theorem sz173 : sizeT Tryz.prog 173 = some 3 := by kernel_rfl
theorem fk173 : fieldsOkT Tryz.prog 173 = true := by kernel_rfl
theorem pl173_1 : placeT Tryz.prog 173 1 = some (1, 1) := by kernel_rfl
theorem ag174 : aggT Tryz.prog 174 = some false := by kernel_rfl
theorem cc174 : concT Tryz.prog 174 = true := by kernel_rfl
theorem kn176 : knownT Tryz.prog 176 = true := by kernel_rfl
theorem ag177 : aggT Tryz.prog 177 = some false := by kernel_rfl
theorem cc177 : concT Tryz.prog 177 = true := by kernel_rfl
theorem kn178 : knownT Tryz.prog 178 = true := by kernel_rfl
theorem sz179 : sizeT Tryz.prog 179 = some 1 := by kernel_rfl
theorem zt179 : zeroT Tryz.prog 179 = some #[.nilFunc] := by kernel_rfl
theorem by180 : bytesT Tryz.prog 180 = some 8 := by kernel_rfl
theorem sz181 : sizeT Tryz.prog 181 = some 24 := by kernel_rfl
theorem cc181 : concT Tryz.prog 181 = true := by kernel_rfl
theorem sz182 : sizeT Tryz.prog 182 = some 1 := by kernel_rfl
theorem zt182 : zeroT Tryz.prog 182 = some #[.nilFunc] := by kernel_rfl
theorem by183 : bytesT Tryz.prog 183 = some 8 := by kernel_rfl
theorem sz185 : sizeT Tryz.prog 185 = some 1 := by kernel_rfl
theorem zt185 : zeroT Tryz.prog 185 = some #[.nilFunc] := by kernel_rfl
theorem by186 : bytesT Tryz.prog 186 = some 8 := by kernel_rfl
theorem sz187 : sizeT Tryz.prog 187 = some 1 := by kernel_rfl
theorem sl187 : slT Tryz.prog 187 = some 198 := by kernel_rfl
theorem zt187 : zeroT Tryz.prog 187 = some #[.slice none 0 0] := by kernel_rfl
theorem by189 : bytesT Tryz.prog 189 = some 8 := by kernel_rfl
theorem sz190 : sizeT Tryz.prog 190 = some 1 := by kernel_rfl
theorem zt190 : zeroT Tryz.prog 190 = some #[.nilFunc] := by kernel_rfl
theorem by191 : bytesT Tryz.prog 191 = some 8 := by kernel_rfl
theorem sz192 : sizeT Tryz.prog 192 = some 4 := by kernel_rfl
theorem cc192 : concT Tryz.prog 192 = true := by kernel_rfl
theorem sz193 : sizeT Tryz.prog 193 = some 4 := by kernel_rfl
theorem cc193 : concT Tryz.prog 193 = true := by kernel_rfl
theorem sz194 : sizeT Tryz.prog 194 = some 9 := by kernel_rfl
theorem fk194 : fieldsOkT Tryz.prog 194 = true := by kernel_rfl
theorem pl194_1 : placeT Tryz.prog 194 1 = some (1, 4) := by kernel_rfl
theorem ag195 : aggT Tryz.prog 195 = some true := by kernel_rfl
theorem cc195 : concT Tryz.prog 195 = true := by kernel_rfl
theorem fo195_1 : fOff Tryz.prog 195 1 = some 1 := by kernel_rfl
theorem zt195 : zeroT Tryz.prog 195 = some #[.int .u64 0, .slice none 0 0, .slice none 0 0, .slice none 0 0, .slice none 0 0, .bool false, .bool false, .bool false, .bool false] := by kernel_rfl
theorem by196 : bytesT Tryz.prog 196 = some 8 := by kernel_rfl
theorem sz197 : sizeT Tryz.prog 197 = some 9 := by kernel_rfl
theorem fk197 : fieldsOkT Tryz.prog 197 = true := by kernel_rfl
theorem pl197_1 : placeT Tryz.prog 197 1 = some (1, 8) := by kernel_rfl
theorem kn198 : knownT Tryz.prog 198 = true := by kernel_rfl
theorem fo198_0 : fOff Tryz.prog 198 0 = some 0 := by kernel_rfl
theorem zt198 : zeroT Tryz.prog 198 = some #[.int .u64 0, .int .i64 0, .int .i64 0, .int .i64 0, .int .i64 0, .string ByteArray.empty, .string ByteArray.empty, .string ByteArray.empty, .slice none 0 0] := by kernel_rfl
theorem by199 : bytesT Tryz.prog 199 = some 8 := by kernel_rfl
theorem sz200 : sizeT Tryz.prog 200 = some 1 := by kernel_rfl
theorem zt200 : zeroT Tryz.prog 200 = some #[.nilFunc] := by kernel_rfl
theorem by202 : bytesT Tryz.prog 202 = some 8 := by kernel_rfl
theorem sz203 : sizeT Tryz.prog 203 = some 1 := by kernel_rfl
theorem zt203 : zeroT Tryz.prog 203 = some #[.nilFunc] := by kernel_rfl
theorem by204 : bytesT Tryz.prog 204 = some 8 := by kernel_rfl
theorem sz206 : sizeT Tryz.prog 206 = some 1 := by kernel_rfl
theorem zt206 : zeroT Tryz.prog 206 = some #[.nilFunc] := by kernel_rfl
theorem by208 : bytesT Tryz.prog 208 = some 8 := by kernel_rfl
theorem sz209 : sizeT Tryz.prog 209 = some 1 := by kernel_rfl
theorem zt209 : zeroT Tryz.prog 209 = some #[.nilFunc] := by kernel_rfl
theorem by210 : bytesT Tryz.prog 210 = some 8 := by kernel_rfl
theorem sz211 : sizeT Tryz.prog 211 = some 1 := by kernel_rfl
theorem zt211 : zeroT Tryz.prog 211 = some #[.nilFunc] := by kernel_rfl
theorem by212 : bytesT Tryz.prog 212 = some 24 := by kernel_rfl
theorem se212 : slE Tryz.prog 212 = some 1 := by kernel_rfl
theorem sz213 : sizeT Tryz.prog 213 = some 1 := by kernel_rfl
theorem zt213 : zeroT Tryz.prog 213 = some #[.nilFunc] := by kernel_rfl
theorem by214 : bytesT Tryz.prog 214 = some 8 := by kernel_rfl
theorem ag215 : aggT Tryz.prog 215 = some false := by kernel_rfl
theorem cc215 : concT Tryz.prog 215 = true := by kernel_rfl
theorem kn216 : knownT Tryz.prog 216 = true := by kernel_rfl
theorem zt216 : zeroT Tryz.prog 216 = some #[.pointer none] := by kernel_rfl
theorem by217 : bytesT Tryz.prog 217 = some 8 := by kernel_rfl
theorem sz218 : sizeT Tryz.prog 218 = some 1 := by kernel_rfl
theorem zt218 : zeroT Tryz.prog 218 = some #[.nilFunc] := by kernel_rfl
theorem by219 : bytesT Tryz.prog 219 = some 8 := by kernel_rfl
theorem sz220 : sizeT Tryz.prog 220 = some 1 := by kernel_rfl
theorem zt220 : zeroT Tryz.prog 220 = some #[.nilFunc] := by kernel_rfl
theorem by221 : bytesT Tryz.prog 221 = some 64 := by kernel_rfl
theorem pl221_0 : placeT Tryz.prog 221 0 = some (0, 1) := by kernel_rfl
theorem pl221_2 : placeT Tryz.prog 221 2 = some (2, 1) := by kernel_rfl
theorem pl221_4 : placeT Tryz.prog 221 4 = some (4, 1) := by kernel_rfl
theorem ag222 : aggT Tryz.prog 222 = some true := by kernel_rfl
theorem cc222 : concT Tryz.prog 222 = true := by kernel_rfl
theorem fo222_1 : fOff Tryz.prog 222 1 = some 1 := by kernel_rfl
theorem fo222_3 : fOff Tryz.prog 222 3 = some 3 := by kernel_rfl
theorem fo222_5 : fOff Tryz.prog 222 5 = some 5 := by kernel_rfl
theorem sz223 : sizeT Tryz.prog 223 = some 1 := by kernel_rfl
theorem cc223 : concT Tryz.prog 223 = true := by kernel_rfl
theorem kn224 : knownT Tryz.prog 224 = true := by kernel_rfl
theorem fo224_0 : fOff Tryz.prog 224 0 = some 0 := by kernel_rfl
theorem fo224_2 : fOff Tryz.prog 224 2 = some 2 := by kernel_rfl
theorem sz225 : sizeT Tryz.prog 225 = some 3 := by kernel_rfl
theorem fk225 : fieldsOkT Tryz.prog 225 = true := by kernel_rfl
theorem pl225_1 : placeT Tryz.prog 225 1 = some (1, 1) := by kernel_rfl
theorem ag226 : aggT Tryz.prog 226 = some true := by kernel_rfl
theorem ar226 : arN Tryz.prog 226 = some (3, 3) := by kernel_rfl
theorem ag227 : aggT Tryz.prog 227 = some true := by kernel_rfl
theorem cc227 : concT Tryz.prog 227 = true := by kernel_rfl
theorem fo227_1 : fOff Tryz.prog 227 1 = some 1 := by kernel_rfl
theorem fo227_3 : fOff Tryz.prog 227 3 = some 3 := by kernel_rfl
theorem zt227 : zeroT Tryz.prog 227 = some #[.pointer none, .int .i64 0, .pointer none, .pointer none, .int .u64 0, .bool false, .pointer none, .int .u64 0, .bool false, .pointer none, .int .u64 0, .bool false, .int .i64 0] := by kernel_rfl
theorem by228 : bytesT Tryz.prog 228 = some 104 := by kernel_rfl
theorem pl228_0 : placeT Tryz.prog 228 0 = some (0, 1) := by kernel_rfl
theorem pl228_2 : placeT Tryz.prog 228 2 = some (2, 1) := by kernel_rfl
theorem pl228_4 : placeT Tryz.prog 228 4 = some (12, 1) := by kernel_rfl
theorem kn229 : knownT Tryz.prog 229 = true := by kernel_rfl
theorem fk229 : fieldsOkT Tryz.prog 229 = true := by kernel_rfl
theorem kn230 : knownT Tryz.prog 230 = true := by kernel_rfl
theorem fk230 : fieldsOkT Tryz.prog 230 = true := by kernel_rfl
theorem by231 : bytesT Tryz.prog 231 = some 224 := by kernel_rfl
theorem pl231_0 : placeT Tryz.prog 231 0 = some (0, 1) := by kernel_rfl
theorem pl231_2 : placeT Tryz.prog 231 2 = some (2, 1) := by kernel_rfl
theorem ag232 : aggT Tryz.prog 232 = some true := by kernel_rfl
theorem cc232 : concT Tryz.prog 232 = true := by kernel_rfl
theorem fo232_1 : fOff Tryz.prog 232 1 = some 1 := by kernel_rfl
theorem fo232_3 : fOff Tryz.prog 232 3 = some 3 := by kernel_rfl
theorem sz233 : sizeT Tryz.prog 233 = some 1 := by kernel_rfl
theorem zt233 : zeroT Tryz.prog 233 = some #[.nilFunc] := by kernel_rfl
theorem by234 : bytesT Tryz.prog 234 = some 8 := by kernel_rfl
theorem sz235 : sizeT Tryz.prog 235 = some 3 := by kernel_rfl
theorem fk235 : fieldsOkT Tryz.prog 235 = true := by kernel_rfl
theorem pl235_1 : placeT Tryz.prog 235 1 = some (1, 1) := by kernel_rfl
theorem ag236 : aggT Tryz.prog 236 = some true := by kernel_rfl
theorem cc236 : concT Tryz.prog 236 = true := by kernel_rfl
theorem fo236_1 : fOff Tryz.prog 236 1 = some 1 := by kernel_rfl
theorem zt236 : zeroT Tryz.prog 236 = some #[.slice none 0 0, .slice none 0 0, .int .i64 0] := by kernel_rfl
theorem by237 : bytesT Tryz.prog 237 = some 8 := by kernel_rfl
theorem sz239 : sizeT Tryz.prog 239 = some 1 := by kernel_rfl
theorem zt239 : zeroT Tryz.prog 239 = some #[.nilFunc] := by kernel_rfl
theorem by240 : bytesT Tryz.prog 240 = some 8 := by kernel_rfl
theorem sz241 : sizeT Tryz.prog 241 = some 1 := by kernel_rfl
theorem zt241 : zeroT Tryz.prog 241 = some #[.nilFunc] := by kernel_rfl
theorem by242 : bytesT Tryz.prog 242 = some 8 := by kernel_rfl
theorem sz243 : sizeT Tryz.prog 243 = some 1 := by kernel_rfl
theorem zt243 : zeroT Tryz.prog 243 = some #[.nilFunc] := by kernel_rfl
theorem by244 : bytesT Tryz.prog 244 = some 160 := by kernel_rfl
theorem zt244 : zeroT Tryz.prog 244 = some #[.int .u64 0, .int .u64 0, .int .u64 0, .int .u64 0, .int .u64 0, .int .u64 0, .int .u64 0, .int .u64 0, .int .u64 0, .int .u64 0, .int .u64 0, .int .u64 0, .int .u64 0, .int .u64 0, .int .u64 0, .int .u64 0, .int .u64 0, .int .u64 0, .int .u64 0, .int .u64 0] := by kernel_rfl
theorem by245 : bytesT Tryz.prog 245 = some 65 := by kernel_rfl
theorem zt245 : zeroT Tryz.prog 245 = some #[.int .u8 0, .int .u8 0, .int .u8 0, .int .u8 0, .int .u8 0, .int .u8 0, .int .u8 0, .int .u8 0, .int .u8 0, .int .u8 0, .int .u8 0, .int .u8 0, .int .u8 0, .int .u8 0, .int .u8 0, .int .u8 0, .int .u8 0, .int .u8 0, .int .u8 0, .int .u8 0, .int .u8 0, .int .u8 0, .int .u8 0, .int .u8 0, .int .u8 0, .int .u8 0, .int .u8 0, .int .u8 0, .int .u8 0, .int .u8 0, .int .u8 0, .int .u8 0, .int .u8 0, .int .u8 0, .int .u8 0, .int .u8 0, .int .u8 0, .int .u8 0, .int .u8 0, .int .u8 0, .int .u8 0, .int .u8 0, .int .u8 0, .int .u8 0, .int .u8 0, .int .u8 0, .int .u8 0, .int .u8 0, .int .u8 0, .int .u8 0, .int .u8 0, .int .u8 0, .int .u8 0, .int .u8 0, .int .u8 0, .int .u8 0, .int .u8 0, .int .u8 0, .int .u8 0, .int .u8 0, .int .u8 0, .int .u8 0, .int .u8 0, .int .u8 0, .int .u8 0] := by kernel_rfl
theorem by246 : bytesT Tryz.prog 246 = some 8 := by kernel_rfl
theorem sz248 : sizeT Tryz.prog 248 = some 1 := by kernel_rfl
theorem zt248 : zeroT Tryz.prog 248 = some #[.nilFunc] := by kernel_rfl
theorem by249 : bytesT Tryz.prog 249 = some 8 := by kernel_rfl
theorem sz251 : sizeT Tryz.prog 251 = some 1 := by kernel_rfl
theorem zt251 : zeroT Tryz.prog 251 = some #[.nilFunc] := by kernel_rfl
theorem by252 : bytesT Tryz.prog 252 = some 8 := by kernel_rfl
theorem ag253 : aggT Tryz.prog 253 = some true := by kernel_rfl
theorem cc253 : concT Tryz.prog 253 = true := by kernel_rfl
theorem zt253 : zeroT Tryz.prog 253 = some #[.map none] := by kernel_rfl
theorem by254 : bytesT Tryz.prog 254 = some 8 := by kernel_rfl
theorem pl254_0 : placeT Tryz.prog 254 0 = some (0, 1) := by kernel_rfl
theorem kn255 : knownT Tryz.prog 255 = true := by kernel_rfl
theorem ag257 : aggT Tryz.prog 257 = some false := by kernel_rfl
theorem cc257 : concT Tryz.prog 257 = true := by kernel_rfl
theorem kn258 : knownT Tryz.prog 258 = true := by kernel_rfl
theorem ag260 : aggT Tryz.prog 260 = some false := by kernel_rfl
theorem cc260 : concT Tryz.prog 260 = true := by kernel_rfl
theorem kn261 : knownT Tryz.prog 261 = true := by kernel_rfl
theorem ag262 : aggT Tryz.prog 262 = some false := by kernel_rfl
theorem cc262 : concT Tryz.prog 262 = true := by kernel_rfl
theorem kn263 : knownT Tryz.prog 263 = true := by kernel_rfl
theorem ag264 : aggT Tryz.prog 264 = some false := by kernel_rfl
theorem cc264 : concT Tryz.prog 264 = true := by kernel_rfl
theorem kn265 : knownT Tryz.prog 265 = true := by kernel_rfl
theorem ag266 : aggT Tryz.prog 266 = some true := by kernel_rfl
theorem cc266 : concT Tryz.prog 266 = true := by kernel_rfl
theorem fo266_1 : fOff Tryz.prog 266 1 = some 1 := by kernel_rfl
theorem zt266 : zeroT Tryz.prog 266 = some #[.int .i64 0, .string ByteArray.empty, .bool false] := by kernel_rfl
theorem by267 : bytesT Tryz.prog 267 = some 32 := by kernel_rfl
theorem pl267_0 : placeT Tryz.prog 267 0 = some (0, 1) := by kernel_rfl
theorem pl267_2 : placeT Tryz.prog 267 2 = some (2, 1) := by kernel_rfl
theorem kn268 : knownT Tryz.prog 268 = true := by kernel_rfl
theorem ag269 : aggT Tryz.prog 269 = some false := by kernel_rfl
theorem cc269 : concT Tryz.prog 269 = true := by kernel_rfl
theorem kn270 : knownT Tryz.prog 270 = true := by kernel_rfl
theorem ag271 : aggT Tryz.prog 271 = some false := by kernel_rfl
theorem cc271 : concT Tryz.prog 271 = true := by kernel_rfl
theorem kn273 : knownT Tryz.prog 273 = true := by kernel_rfl
theorem ag274 : aggT Tryz.prog 274 = some false := by kernel_rfl
theorem cc274 : concT Tryz.prog 274 = true := by kernel_rfl
theorem kn275 : knownT Tryz.prog 275 = true := by kernel_rfl
theorem ag276 : aggT Tryz.prog 276 = some false := by kernel_rfl
theorem cc276 : concT Tryz.prog 276 = true := by kernel_rfl
theorem kn277 : knownT Tryz.prog 277 = true := by kernel_rfl
theorem ag278 : aggT Tryz.prog 278 = some false := by kernel_rfl
theorem cc278 : concT Tryz.prog 278 = true := by kernel_rfl
theorem kn279 : knownT Tryz.prog 279 = true := by kernel_rfl
theorem ag280 : aggT Tryz.prog 280 = some false := by kernel_rfl
theorem cc280 : concT Tryz.prog 280 = true := by kernel_rfl
theorem kn282 : knownT Tryz.prog 282 = true := by kernel_rfl
theorem ag283 : aggT Tryz.prog 283 = some false := by kernel_rfl
theorem cc283 : concT Tryz.prog 283 = true := by kernel_rfl
theorem kn285 : knownT Tryz.prog 285 = true := by kernel_rfl
theorem ag286 : aggT Tryz.prog 286 = some false := by kernel_rfl
theorem cc286 : concT Tryz.prog 286 = true := by kernel_rfl
theorem kn287 : knownT Tryz.prog 287 = true := by kernel_rfl
theorem ag289 : aggT Tryz.prog 289 = some false := by kernel_rfl
theorem cc289 : concT Tryz.prog 289 = true := by kernel_rfl
theorem kn290 : knownT Tryz.prog 290 = true := by kernel_rfl
theorem ag291 : aggT Tryz.prog 291 = some false := by kernel_rfl
theorem cc291 : concT Tryz.prog 291 = true := by kernel_rfl
theorem kn292 : knownT Tryz.prog 292 = true := by kernel_rfl
theorem ag293 : aggT Tryz.prog 293 = some true := by kernel_rfl
theorem ar293 : arN Tryz.prog 293 = some (32, 1) := by kernel_rfl
theorem ag294 : aggT Tryz.prog 294 = some false := by kernel_rfl
theorem cc294 : concT Tryz.prog 294 = true := by kernel_rfl
theorem kn295 : knownT Tryz.prog 295 = true := by kernel_rfl
theorem ag296 : aggT Tryz.prog 296 = some false := by kernel_rfl
theorem cc296 : concT Tryz.prog 296 = true := by kernel_rfl
theorem kn297 : knownT Tryz.prog 297 = true := by kernel_rfl
theorem fo297_0 : fOff Tryz.prog 297 0 = some 0 := by kernel_rfl
theorem fo297_2 : fOff Tryz.prog 297 2 = some 2 := by kernel_rfl
theorem zt297 : zeroT Tryz.prog 297 = some #[.pointer none, .pointer none, .pointer none, .string ByteArray.empty] := by kernel_rfl
theorem by298 : bytesT Tryz.prog 298 = some 40 := by kernel_rfl
theorem pl298_0 : placeT Tryz.prog 298 0 = some (0, 1) := by kernel_rfl
theorem pl298_2 : placeT Tryz.prog 298 2 = some (2, 1) := by kernel_rfl
theorem ag299 : aggT Tryz.prog 299 = some true := by kernel_rfl
theorem cc299 : concT Tryz.prog 299 = true := by kernel_rfl
theorem sz300 : sizeT Tryz.prog 300 = some 0 := by kernel_rfl
theorem zt300 : zeroT Tryz.prog 300 = some #[] := by kernel_rfl
theorem cc301 : concT Tryz.prog 301 = true := by kernel_rfl
theorem sz302 : sizeT Tryz.prog 302 = some 1 := by kernel_rfl
theorem it302 : intT Tryz.prog 302 = some .u8 := by kernel_rfl
theorem sz303 : sizeT Tryz.prog 303 = some 1 := by kernel_rfl
theorem it303 : intT Tryz.prog 303 = some .u8 := by kernel_rfl
theorem sz304 : sizeT Tryz.prog 304 = some 1 := by kernel_rfl
theorem zt304 : zeroT Tryz.prog 304 = some #[.nilFunc] := by kernel_rfl
theorem by305 : bytesT Tryz.prog 305 = some 4 := by kernel_rfl
theorem ag306 : aggT Tryz.prog 306 = some false := by kernel_rfl
theorem it306 : intT Tryz.prog 306 = some .i32 := by kernel_rfl
theorem sz307 : sizeT Tryz.prog 307 = some 11 := by kernel_rfl
theorem fk307 : fieldsOkT Tryz.prog 307 = true := by kernel_rfl
theorem pl307_1 : placeT Tryz.prog 307 1 = some (1, 1) := by kernel_rfl
theorem pl307_3 : placeT Tryz.prog 307 3 = some (3, 1) := by kernel_rfl
theorem pl307_5 : placeT Tryz.prog 307 5 = some (5, 1) := by kernel_rfl
theorem pl307_7 : placeT Tryz.prog 307 7 = some (7, 1) := by kernel_rfl
theorem pl307_9 : placeT Tryz.prog 307 9 = some (9, 1) := by kernel_rfl
theorem ag308 : aggT Tryz.prog 308 = some true := by kernel_rfl
theorem cc308 : concT Tryz.prog 308 = true := by kernel_rfl
theorem fo308_1 : fOff Tryz.prog 308 1 = some 1 := by kernel_rfl
theorem fo308_3 : fOff Tryz.prog 308 3 = some 3 := by kernel_rfl
theorem fo308_5 : fOff Tryz.prog 308 5 = some 5 := by kernel_rfl
theorem fo308_7 : fOff Tryz.prog 308 7 = some 7 := by kernel_rfl
theorem fo308_9 : fOff Tryz.prog 308 9 = some 9 := by kernel_rfl
theorem zt308 : zeroT Tryz.prog 308 = some #[.int .u64 0, .int .u64 0, .int .u32 0, .int .u8 0, .int .u8 0, .int .u8 0, .int .u8 0, .nilFunc, .pointer none, .int .i32 0, .int .i32 0] := by kernel_rfl
theorem by309 : bytesT Tryz.prog 309 = some 8 := by kernel_rfl
theorem cl3 : Callable Tryz.prog 3 := ⟨_, Tryz.func3, by kernel_rfl, by kernel_rfl⟩
theorem cl7 : Callable Tryz.prog 7 := ⟨_, Tryz.func7, by kernel_rfl, by kernel_rfl⟩
theorem cl11 : Callable Tryz.prog 11 := ⟨_, Tryz.func11, by kernel_rfl, by kernel_rfl⟩
theorem cl15 : Callable Tryz.prog 15 := ⟨_, Tryz.func15, by kernel_rfl, by kernel_rfl⟩
theorem cl19 : Callable Tryz.prog 19 := ⟨_, Tryz.func19, by kernel_rfl, by kernel_rfl⟩
theorem cl23 : Callable Tryz.prog 23 := ⟨_, Tryz.func23, by kernel_rfl, by kernel_rfl⟩
theorem cl27 : Callable Tryz.prog 27 := ⟨_, Tryz.func27, by kernel_rfl, by kernel_rfl⟩
theorem cl31 : Callable Tryz.prog 31 := ⟨_, Tryz.func31, by kernel_rfl, by kernel_rfl⟩
theorem cl35 : Callable Tryz.prog 35 := ⟨_, Tryz.func35, by kernel_rfl, by kernel_rfl⟩
theorem cl39 : Callable Tryz.prog 39 := ⟨_, Tryz.func39, by kernel_rfl, by kernel_rfl⟩
theorem cl43 : Callable Tryz.prog 43 := ⟨_, Tryz.func43, by kernel_rfl, by kernel_rfl⟩
theorem cl47 : Callable Tryz.prog 47 := ⟨_, Tryz.func47, by kernel_rfl, by kernel_rfl⟩
theorem cl51 : Callable Tryz.prog 51 := ⟨_, Tryz.func51, by kernel_rfl, by kernel_rfl⟩
theorem cl55 : Callable Tryz.prog 55 := ⟨_, Tryz.func55, by kernel_rfl, by kernel_rfl⟩
theorem cl59 : Callable Tryz.prog 59 := ⟨_, Tryz.func59, by kernel_rfl, by kernel_rfl⟩
theorem cl63 : Callable Tryz.prog 63 := ⟨_, Tryz.func63, by kernel_rfl, by kernel_rfl⟩
theorem cl67 : Callable Tryz.prog 67 := ⟨_, Tryz.func67, by kernel_rfl, by kernel_rfl⟩
theorem cl71 : Callable Tryz.prog 71 := ⟨_, Tryz.func71, by kernel_rfl, by kernel_rfl⟩
theorem cl75 : Callable Tryz.prog 75 := ⟨_, Tryz.func75, by kernel_rfl, by kernel_rfl⟩
theorem cl79 : Callable Tryz.prog 79 := ⟨_, Tryz.func79, by kernel_rfl, by kernel_rfl⟩
theorem cl83 : Callable Tryz.prog 83 := ⟨_, Tryz.func83, by kernel_rfl, by kernel_rfl⟩
theorem cl87 : Callable Tryz.prog 87 := ⟨_, Tryz.func87, by kernel_rfl, by kernel_rfl⟩
theorem cl92 : Callable Tryz.prog 92 := ⟨_, Tryz.func92, by kernel_rfl, by kernel_rfl⟩
theorem cl96 : Callable Tryz.prog 96 := ⟨_, Tryz.func96, by kernel_rfl, by kernel_rfl⟩
theorem cl100 : Callable Tryz.prog 100 := ⟨_, Tryz.func100, by kernel_rfl, by kernel_rfl⟩
theorem cl104 : Callable Tryz.prog 104 := ⟨_, Tryz.func104, by kernel_rfl, by kernel_rfl⟩
theorem cl108 : Callable Tryz.prog 108 := ⟨_, Tryz.func108, by kernel_rfl, by kernel_rfl⟩
theorem cl112 : Callable Tryz.prog 112 := ⟨_, Tryz.func112, by kernel_rfl, by kernel_rfl⟩
theorem cl116 : Callable Tryz.prog 116 := ⟨_, Tryz.func116, by kernel_rfl, by kernel_rfl⟩
theorem cl120 : Callable Tryz.prog 120 := ⟨_, Tryz.func120, by kernel_rfl, by kernel_rfl⟩
theorem cl124 : Callable Tryz.prog 124 := ⟨_, Tryz.func124, by kernel_rfl, by kernel_rfl⟩
theorem cl128 : Callable Tryz.prog 128 := ⟨_, Tryz.func128, by kernel_rfl, by kernel_rfl⟩
theorem cl132 : Callable Tryz.prog 132 := ⟨_, Tryz.func132, by kernel_rfl, by kernel_rfl⟩
theorem cl136 : Callable Tryz.prog 136 := ⟨_, Tryz.func136, by kernel_rfl, by kernel_rfl⟩
theorem cl140 : Callable Tryz.prog 140 := ⟨_, Tryz.func140, by kernel_rfl, by kernel_rfl⟩
theorem cl144 : Callable Tryz.prog 144 := ⟨_, Tryz.func144, by kernel_rfl, by kernel_rfl⟩
theorem cl148 : Callable Tryz.prog 148 := ⟨_, Tryz.func148, by kernel_rfl, by kernel_rfl⟩
theorem cl152 : Callable Tryz.prog 152 := ⟨_, Tryz.func152, by kernel_rfl, by kernel_rfl⟩
theorem cl156 : Callable Tryz.prog 156 := ⟨_, Tryz.func156, by kernel_rfl, by kernel_rfl⟩
theorem cl160 : Callable Tryz.prog 160 := ⟨_, Tryz.func160, by kernel_rfl, by kernel_rfl⟩
theorem cl164 : Callable Tryz.prog 164 := ⟨_, Tryz.func164, by kernel_rfl, by kernel_rfl⟩
theorem cl168 : Callable Tryz.prog 168 := ⟨_, Tryz.func168, by kernel_rfl, by kernel_rfl⟩
theorem cl172 : Callable Tryz.prog 172 := ⟨_, Tryz.func172, by kernel_rfl, by kernel_rfl⟩
theorem cl176 : Callable Tryz.prog 176 := ⟨_, Tryz.func176, by kernel_rfl, by kernel_rfl⟩
theorem cl180 : Callable Tryz.prog 180 := ⟨_, Tryz.func180, by kernel_rfl, by kernel_rfl⟩
theorem cl185 : Callable Tryz.prog 185 := ⟨_, Tryz.func185, by kernel_rfl, by kernel_rfl⟩
theorem cl205 : Callable Tryz.prog 205 := ⟨_, Tryz.func205, by kernel_rfl, by kernel_rfl⟩
end Go.Fw
