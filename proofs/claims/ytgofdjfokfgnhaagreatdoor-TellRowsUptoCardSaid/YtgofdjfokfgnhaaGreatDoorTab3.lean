/-
  A part of the proof: lemmas on which the theorem leans; nothing is claimed here by itself.
-/
import Derived.Test.YtgofdjfokfgnhaaGreatDoorFw
import Derived.Test.YtgofdjfokfgnhaaGreatDoorProg
namespace Go.Fw
open Go Go.Proofs
theorem by1 : bytesT Tryz.prog 1 = some 8 := by kernel_rfl
theorem sz2 : sizeT Tryz.prog 2 = some 1 := by kernel_rfl
theorem cc2 : concT Tryz.prog 2 = true := by kernel_rfl
theorem kn3 : knownT Tryz.prog 3 = true := by kernel_rfl
theorem zt3 : zeroT Tryz.prog 3 = some #[.int .i64 0] := by kernel_rfl
theorem by4 : bytesT Tryz.prog 4 = some 1 := by kernel_rfl
theorem ag5 : aggT Tryz.prog 5 = some false := by kernel_rfl
theorem u85 : u8T Tryz.prog 5 = true := by kernel_rfl
theorem ag6 : aggT Tryz.prog 6 = some false := by kernel_rfl
theorem u86 : u8T Tryz.prog 6 = true := by kernel_rfl
theorem ag7 : aggT Tryz.prog 7 = some true := by kernel_rfl
theorem cc7 : concT Tryz.prog 7 = true := by kernel_rfl
theorem fo7_1 : fOff Tryz.prog 7 1 = some 1 := by kernel_rfl
theorem fo7_3 : fOff Tryz.prog 7 3 = some 3 := by kernel_rfl
theorem sz8 : sizeT Tryz.prog 8 = some 4 := by kernel_rfl
theorem fk8 : fieldsOkT Tryz.prog 8 = true := by kernel_rfl
theorem pl8_1 : placeT Tryz.prog 8 1 = some (1, 1) := by kernel_rfl
theorem pl8_3 : placeT Tryz.prog 8 3 = some (3, 1) := by kernel_rfl
theorem kn9 : knownT Tryz.prog 9 = true := by kernel_rfl
theorem cc9 : concT Tryz.prog 9 = true := by kernel_rfl
theorem kn10 : knownT Tryz.prog 10 = true := by kernel_rfl
theorem cc10 : concT Tryz.prog 10 = true := by kernel_rfl
theorem kn11 : knownT Tryz.prog 11 = true := by kernel_rfl
theorem cc11 : concT Tryz.prog 11 = true := by kernel_rfl
theorem kn12 : knownT Tryz.prog 12 = true := by kernel_rfl
theorem zt12 : zeroT Tryz.prog 12 = some #[.int .u64 0] := by kernel_rfl
theorem by13 : bytesT Tryz.prog 13 = some 24 := by kernel_rfl
theorem pl13_0 : placeT Tryz.prog 13 0 = some (0, 1) := by kernel_rfl
theorem ag14 : aggT Tryz.prog 14 = some true := by kernel_rfl
theorem cc14 : concT Tryz.prog 14 = true := by kernel_rfl
theorem fo14_1 : fOff Tryz.prog 14 1 = some 1 := by kernel_rfl
theorem sz15 : sizeT Tryz.prog 15 = some 1 := by kernel_rfl
theorem cc15 : concT Tryz.prog 15 = true := by kernel_rfl
theorem kn16 : knownT Tryz.prog 16 = true := by kernel_rfl
theorem zt16 : zeroT Tryz.prog 16 = some #[.pointer none] := by kernel_rfl
theorem by17 : bytesT Tryz.prog 17 = some 8 := by kernel_rfl
theorem ag18 : aggT Tryz.prog 18 = some true := by kernel_rfl
theorem cc18 : concT Tryz.prog 18 = true := by kernel_rfl
theorem zt18 : zeroT Tryz.prog 18 = some #[.pointer none] := by kernel_rfl
theorem by19 : bytesT Tryz.prog 19 = some 8 := by kernel_rfl
theorem pl19_0 : placeT Tryz.prog 19 0 = some (0, 1) := by kernel_rfl
theorem kn20 : knownT Tryz.prog 20 = true := by kernel_rfl
theorem sz21 : sizeT Tryz.prog 21 = some 1 := by kernel_rfl
theorem cc21 : concT Tryz.prog 21 = true := by kernel_rfl
theorem kn22 : knownT Tryz.prog 22 = true := by kernel_rfl
theorem zt22 : zeroT Tryz.prog 22 = some #[.int .i64 0] := by kernel_rfl
theorem by23 : bytesT Tryz.prog 23 = some 24 := by kernel_rfl
theorem se23 : slE Tryz.prog 23 = some 3 := by kernel_rfl
theorem sz24 : sizeT Tryz.prog 24 = some 1 := by kernel_rfl
theorem sl24 : slT Tryz.prog 24 = some 5 := by kernel_rfl
theorem zt24 : zeroT Tryz.prog 24 = some #[.slice none 0 0] := by kernel_rfl
theorem by25 : bytesT Tryz.prog 25 = some 80 := by kernel_rfl
theorem pl25_0 : placeT Tryz.prog 25 0 = some (0, 1) := by kernel_rfl
theorem pl25_2 : placeT Tryz.prog 25 2 = some (2, 1) := by kernel_rfl
theorem pl25_4 : placeT Tryz.prog 25 4 = some (4, 1) := by kernel_rfl
theorem kn26 : knownT Tryz.prog 26 = true := by kernel_rfl
theorem fo26_0 : fOff Tryz.prog 26 0 = some 0 := by kernel_rfl
theorem fo26_2 : fOff Tryz.prog 26 2 = some 2 := by kernel_rfl
theorem fo26_4 : fOff Tryz.prog 26 4 = some 4 := by kernel_rfl
theorem sz27 : sizeT Tryz.prog 27 = some 1 := by kernel_rfl
theorem zt27 : zeroT Tryz.prog 27 = some #[.nilFunc] := by kernel_rfl
theorem by28 : bytesT Tryz.prog 28 = some 8 := by kernel_rfl
theorem sz29 : sizeT Tryz.prog 29 = some 1 := by kernel_rfl
theorem zt29 : zeroT Tryz.prog 29 = some #[.nilFunc] := by kernel_rfl
theorem by30 : bytesT Tryz.prog 30 = some 40 := by kernel_rfl
theorem pl30_0 : placeT Tryz.prog 30 0 = some (0, 1) := by kernel_rfl
theorem pl30_2 : placeT Tryz.prog 30 2 = some (2, 1) := by kernel_rfl
theorem kn31 : knownT Tryz.prog 31 = true := by kernel_rfl
theorem fo31_0 : fOff Tryz.prog 31 0 = some 0 := by kernel_rfl
theorem fo31_2 : fOff Tryz.prog 31 2 = some 2 := by kernel_rfl
theorem sz32 : sizeT Tryz.prog 32 = some 1 := by kernel_rfl
theorem zt32 : zeroT Tryz.prog 32 = some #[.nilFunc] := by kernel_rfl
theorem by33 : bytesT Tryz.prog 33 = some 8 := by kernel_rfl
theorem sz34 : sizeT Tryz.prog 34 = some 1 := by kernel_rfl
theorem zt34 : zeroT Tryz.prog 34 = some #[.nilFunc] := by kernel_rfl
theorem by35 : bytesT Tryz.prog 35 = some 8 := by kernel_rfl
theorem sz36 : sizeT Tryz.prog 36 = some 1 := by kernel_rfl
theorem sl36 : slT Tryz.prog 36 = some 51 := by kernel_rfl
theorem zt36 : zeroT Tryz.prog 36 = some #[.slice none 0 0] := by kernel_rfl
theorem by37 : bytesT Tryz.prog 37 = some 8 := by kernel_rfl
theorem sz38 : sizeT Tryz.prog 38 = some 1 := by kernel_rfl
theorem cc38 : concT Tryz.prog 38 = true := by kernel_rfl
theorem kn39 : knownT Tryz.prog 39 = true := by kernel_rfl
theorem ag40 : aggT Tryz.prog 40 = some false := by kernel_rfl
theorem pt40 : ptrT Tryz.prog 40 = true := by kernel_rfl
theorem sz41 : sizeT Tryz.prog 41 = some 1 := by kernel_rfl
theorem sl41 : slT Tryz.prog 41 = some 3 := by kernel_rfl
theorem zt41 : zeroT Tryz.prog 41 = some #[.slice none 0 0] := by kernel_rfl
theorem by42 : bytesT Tryz.prog 42 = some 96 := by kernel_rfl
theorem zt42 : zeroT Tryz.prog 42 = some #[.slice none 0 0, .slice none 0 0, .slice none 0 0, .slice none 0 0] := by kernel_rfl
theorem by43 : bytesT Tryz.prog 43 = some 96 := by kernel_rfl
theorem pl43_0 : placeT Tryz.prog 43 0 = some (0, 4) := by kernel_rfl
theorem kn44 : knownT Tryz.prog 44 = true := by kernel_rfl
theorem fo44_0 : fOff Tryz.prog 44 0 = some 0 := by kernel_rfl
theorem sz45 : sizeT Tryz.prog 45 = some 1 := by kernel_rfl
theorem fk45 : fieldsOkT Tryz.prog 45 = true := by kernel_rfl
theorem ag46 : aggT Tryz.prog 46 = some true := by kernel_rfl
theorem cc46 : concT Tryz.prog 46 = true := by kernel_rfl
theorem zt46 : zeroT Tryz.prog 46 = some #[.slice none 0 0] := by kernel_rfl
theorem by47 : bytesT Tryz.prog 47 = some 8 := by kernel_rfl
theorem ag48 : aggT Tryz.prog 48 = some true := by kernel_rfl
theorem cc48 : concT Tryz.prog 48 = true := by kernel_rfl
theorem fo48_1 : fOff Tryz.prog 48 1 = some 1 := by kernel_rfl
theorem fo48_3 : fOff Tryz.prog 48 3 = some 3 := by kernel_rfl
theorem fo48_5 : fOff Tryz.prog 48 5 = some 7 := by kernel_rfl
theorem fo48_7 : fOff Tryz.prog 48 7 = some 9 := by kernel_rfl
theorem sz49 : sizeT Tryz.prog 49 = some 10 := by kernel_rfl
theorem fk49 : fieldsOkT Tryz.prog 49 = true := by kernel_rfl
theorem pl49_1 : placeT Tryz.prog 49 1 = some (1, 1) := by kernel_rfl
theorem pl49_3 : placeT Tryz.prog 49 3 = some (3, 3) := by kernel_rfl
theorem pl49_5 : placeT Tryz.prog 49 5 = some (7, 1) := by kernel_rfl
theorem pl49_7 : placeT Tryz.prog 49 7 = some (9, 1) := by kernel_rfl
theorem kn50 : knownT Tryz.prog 50 = true := by kernel_rfl
theorem fo50_0 : fOff Tryz.prog 50 0 = some 0 := by kernel_rfl
theorem fo50_2 : fOff Tryz.prog 50 2 = some 11 := by kernel_rfl
theorem sz51 : sizeT Tryz.prog 51 = some 12 := by kernel_rfl
theorem fk51 : fieldsOkT Tryz.prog 51 = true := by kernel_rfl
theorem pl51_1 : placeT Tryz.prog 51 1 = some (10, 1) := by kernel_rfl
theorem ag52 : aggT Tryz.prog 52 = some false := by kernel_rfl
theorem cc52 : concT Tryz.prog 52 = true := by kernel_rfl
theorem kn53 : knownT Tryz.prog 53 = true := by kernel_rfl
theorem ag54 : aggT Tryz.prog 54 = some false := by kernel_rfl
theorem cc54 : concT Tryz.prog 54 = true := by kernel_rfl
theorem kn55 : knownT Tryz.prog 55 = true := by kernel_rfl
theorem ag56 : aggT Tryz.prog 56 = some false := by kernel_rfl
theorem cc56 : concT Tryz.prog 56 = true := by kernel_rfl
theorem kn57 : knownT Tryz.prog 57 = true := by kernel_rfl
theorem ag58 : aggT Tryz.prog 58 = some false := by kernel_rfl
theorem cc58 : concT Tryz.prog 58 = true := by kernel_rfl
theorem kn59 : knownT Tryz.prog 59 = true := by kernel_rfl
theorem si59 : (slT Tryz.prog 59).isSome = true := by kernel_rfl
theorem ag60 : aggT Tryz.prog 60 = some false := by kernel_rfl
theorem cc60 : concT Tryz.prog 60 = true := by kernel_rfl
theorem kn61 : knownT Tryz.prog 61 = true := by kernel_rfl
theorem ag62 : aggT Tryz.prog 62 = some false := by kernel_rfl
theorem it62 : intT Tryz.prog 62 = some .i64 := by kernel_rfl
theorem sz63 : sizeT Tryz.prog 63 = some 1 := by kernel_rfl
theorem st63 : strT Tryz.prog 63 = true := by kernel_rfl
theorem sz64 : sizeT Tryz.prog 64 = some 1 := by kernel_rfl
theorem sl64 : slT Tryz.prog 64 = some 67 := by kernel_rfl
theorem zt64 : zeroT Tryz.prog 64 = some #[.slice none 0 0] := by kernel_rfl
theorem by65 : bytesT Tryz.prog 65 = some 40 := by kernel_rfl
theorem pl65_0 : placeT Tryz.prog 65 0 = some (0, 1) := by kernel_rfl
theorem pl65_2 : placeT Tryz.prog 65 2 = some (2, 1) := by kernel_rfl
theorem kn66 : knownT Tryz.prog 66 = true := by kernel_rfl
theorem sz67 : sizeT Tryz.prog 67 = some 1 := by kernel_rfl
theorem ag70 : aggT Tryz.prog 70 = some false := by kernel_rfl
theorem cc70 : concT Tryz.prog 70 = true := by kernel_rfl
theorem kn71 : knownT Tryz.prog 71 = true := by kernel_rfl
theorem zt71 : zeroT Tryz.prog 71 = some #[.pointer none] := by kernel_rfl
theorem by72 : bytesT Tryz.prog 72 = some 8 := by kernel_rfl
theorem sz73 : sizeT Tryz.prog 73 = some 1 := by kernel_rfl
theorem cc73 : concT Tryz.prog 73 = true := by kernel_rfl
theorem kn74 : knownT Tryz.prog 74 = true := by kernel_rfl
theorem zt74 : zeroT Tryz.prog 74 = some #[.pointer none] := by kernel_rfl
theorem by75 : bytesT Tryz.prog 75 = some 16 := by kernel_rfl
theorem pl75_0 : placeT Tryz.prog 75 0 = some (0, 1) := by kernel_rfl
theorem ag76 : aggT Tryz.prog 76 = some true := by kernel_rfl
theorem cc76 : concT Tryz.prog 76 = true := by kernel_rfl
theorem fo76_1 : fOff Tryz.prog 76 1 = some 1 := by kernel_rfl
theorem sz77 : sizeT Tryz.prog 77 = some 5 := by kernel_rfl
theorem fk77 : fieldsOkT Tryz.prog 77 = true := by kernel_rfl
theorem pl77_1 : placeT Tryz.prog 77 1 = some (1, 1) := by kernel_rfl
theorem pl77_3 : placeT Tryz.prog 77 3 = some (4, 1) := by kernel_rfl
theorem kn78 : knownT Tryz.prog 78 = true := by kernel_rfl
theorem fo78_0 : fOff Tryz.prog 78 0 = some 0 := by kernel_rfl
theorem fo78_2 : fOff Tryz.prog 78 2 = some 2 := by kernel_rfl
theorem zt78 : zeroT Tryz.prog 78 = some #[.pointer none, .pointer none, .int .i64 0, .int .u64 0, .bool false] := by kernel_rfl
theorem by79 : bytesT Tryz.prog 79 = some 160 := by kernel_rfl
theorem zt79 : zeroT Tryz.prog 79 = some #[.pointer none, .pointer none, .int .i64 0, .int .u64 0, .bool false, .pointer none, .pointer none, .int .i64 0, .int .u64 0, .bool false, .pointer none, .pointer none, .int .i64 0, .int .u64 0, .bool false, .pointer none, .pointer none, .int .i64 0, .int .u64 0, .bool false] := by kernel_rfl
theorem by80 : bytesT Tryz.prog 80 = some 176 := by kernel_rfl
theorem pl80_0 : placeT Tryz.prog 80 0 = some (0, 1) := by kernel_rfl
theorem pl80_2 : placeT Tryz.prog 80 2 = some (21, 1) := by kernel_rfl
theorem kn81 : knownT Tryz.prog 81 = true := by kernel_rfl
theorem fo81_0 : fOff Tryz.prog 81 0 = some 0 := by kernel_rfl
theorem fo81_2 : fOff Tryz.prog 81 2 = some 21 := by kernel_rfl
theorem sz82 : sizeT Tryz.prog 82 = some 1 := by kernel_rfl
theorem cc82 : concT Tryz.prog 82 = true := by kernel_rfl
theorem kn83 : knownT Tryz.prog 83 = true := by kernel_rfl
theorem ag84 : aggT Tryz.prog 84 = some false := by kernel_rfl
theorem cc84 : concT Tryz.prog 84 = true := by kernel_rfl
theorem kn85 : knownT Tryz.prog 85 = true := by kernel_rfl
theorem ag86 : aggT Tryz.prog 86 = some false := by kernel_rfl
theorem cc86 : concT Tryz.prog 86 = true := by kernel_rfl
theorem kn87 : knownT Tryz.prog 87 = true := by kernel_rfl
theorem zt87 : zeroT Tryz.prog 87 = some #[.pointer none] := by kernel_rfl
theorem by88 : bytesT Tryz.prog 88 = some 8 := by kernel_rfl
theorem sz89 : sizeT Tryz.prog 89 = some 1 := by kernel_rfl
theorem cc89 : concT Tryz.prog 89 = true := by kernel_rfl
theorem kn90 : knownT Tryz.prog 90 = true := by kernel_rfl
theorem fo90_0 : fOff Tryz.prog 90 0 = some 0 := by kernel_rfl
theorem zt90 : zeroT Tryz.prog 90 = some #[.pointer none, .slice none 0 0] := by kernel_rfl
theorem by91 : bytesT Tryz.prog 91 = some 32 := by kernel_rfl
theorem pl91_0 : placeT Tryz.prog 91 0 = some (0, 1) := by kernel_rfl
theorem ag92 : aggT Tryz.prog 92 = some false := by kernel_rfl
theorem zt92 : zeroT Tryz.prog 92 = some #[.nilIface] := by kernel_rfl
theorem by93 : bytesT Tryz.prog 93 = some 16 := by kernel_rfl
theorem kn95 : knownT Tryz.prog 95 = true := by kernel_rfl
theorem ag96 : aggT Tryz.prog 96 = some false := by kernel_rfl
theorem cc96 : concT Tryz.prog 96 = true := by kernel_rfl
theorem kn97 : knownT Tryz.prog 97 = true := by kernel_rfl
theorem ag98 : aggT Tryz.prog 98 = some false := by kernel_rfl
theorem pt98 : ptrT Tryz.prog 98 = true := by kernel_rfl
theorem sz99 : sizeT Tryz.prog 99 = some 1 := by kernel_rfl
theorem zt99 : zeroT Tryz.prog 99 = some #[.nilFunc] := by kernel_rfl
theorem by100 : bytesT Tryz.prog 100 = some 8 := by kernel_rfl
theorem sz101 : sizeT Tryz.prog 101 = some 1 := by kernel_rfl
theorem zt101 : zeroT Tryz.prog 101 = some #[.nilFunc] := by kernel_rfl
theorem by102 : bytesT Tryz.prog 102 = some 24 := by kernel_rfl
theorem se102 : slE Tryz.prog 102 = some 64 := by kernel_rfl
theorem sz103 : sizeT Tryz.prog 103 = some 1 := by kernel_rfl
theorem sl103 : slT Tryz.prog 103 = some 110 := by kernel_rfl
theorem zt103 : zeroT Tryz.prog 103 = some #[.slice none 0 0] := by kernel_rfl
theorem by104 : bytesT Tryz.prog 104 = some 64 := by kernel_rfl
theorem pl104_0 : placeT Tryz.prog 104 0 = some (0, 1) := by kernel_rfl
theorem pl104_2 : placeT Tryz.prog 104 2 = some (2, 1) := by kernel_rfl
theorem ag105 : aggT Tryz.prog 105 = some true := by kernel_rfl
theorem cc105 : concT Tryz.prog 105 = true := by kernel_rfl
theorem fo105_1 : fOff Tryz.prog 105 1 = some 1 := by kernel_rfl
theorem fo105_3 : fOff Tryz.prog 105 3 = some 3 := by kernel_rfl
theorem sz106 : sizeT Tryz.prog 106 = some 1 := by kernel_rfl
theorem zt106 : zeroT Tryz.prog 106 = some #[.nilFunc] := by kernel_rfl
theorem by107 : bytesT Tryz.prog 107 = some 8 := by kernel_rfl
theorem sz108 : sizeT Tryz.prog 108 = some 1 := by kernel_rfl
theorem sl108 : slT Tryz.prog 108 = some 147 := by kernel_rfl
theorem zt108 : zeroT Tryz.prog 108 = some #[.slice none 0 0] := by kernel_rfl
theorem by109 : bytesT Tryz.prog 109 = some 40 := by kernel_rfl
theorem pl109_0 : placeT Tryz.prog 109 0 = some (0, 1) := by kernel_rfl
theorem pl109_2 : placeT Tryz.prog 109 2 = some (2, 1) := by kernel_rfl
theorem kn110 : knownT Tryz.prog 110 = true := by kernel_rfl
theorem fo110_0 : fOff Tryz.prog 110 0 = some 0 := by kernel_rfl
theorem fo110_2 : fOff Tryz.prog 110 2 = some 2 := by kernel_rfl
theorem sz111 : sizeT Tryz.prog 111 = some 1 := by kernel_rfl
theorem zt111 : zeroT Tryz.prog 111 = some #[.nilFunc] := by kernel_rfl
theorem by112 : bytesT Tryz.prog 112 = some 8 := by kernel_rfl
theorem sz114 : sizeT Tryz.prog 114 = some 1 := by kernel_rfl
theorem zt114 : zeroT Tryz.prog 114 = some #[.nilFunc] := by kernel_rfl
theorem by115 : bytesT Tryz.prog 115 = some 8 := by kernel_rfl
theorem sz116 : sizeT Tryz.prog 116 = some 1 := by kernel_rfl
theorem cc116 : concT Tryz.prog 116 = true := by kernel_rfl
theorem kn117 : knownT Tryz.prog 117 = true := by kernel_rfl
theorem zt117 : zeroT Tryz.prog 117 = some #[.pointer none] := by kernel_rfl
theorem by118 : bytesT Tryz.prog 118 = some 32 := by kernel_rfl
theorem zt118 : zeroT Tryz.prog 118 = some #[.pointer none, .pointer none, .pointer none, .pointer none] := by kernel_rfl
theorem by119 : bytesT Tryz.prog 119 = some 32 := by kernel_rfl
theorem pl119_0 : placeT Tryz.prog 119 0 = some (0, 4) := by kernel_rfl
theorem kn120 : knownT Tryz.prog 120 = true := by kernel_rfl
theorem fo120_0 : fOff Tryz.prog 120 0 = some 0 := by kernel_rfl
theorem sz121 : sizeT Tryz.prog 121 = some 1 := by kernel_rfl
theorem cc121 : concT Tryz.prog 121 = true := by kernel_rfl
theorem kn122 : knownT Tryz.prog 122 = true := by kernel_rfl
theorem zt122 : zeroT Tryz.prog 122 = some #[.pointer none] := by kernel_rfl
theorem by123 : bytesT Tryz.prog 123 = some 24 := by kernel_rfl
theorem se123 : slE Tryz.prog 123 = some 5 := by kernel_rfl
theorem sz124 : sizeT Tryz.prog 124 = some 1 := by kernel_rfl
theorem fk124 : fieldsOkT Tryz.prog 124 = true := by kernel_rfl
theorem ag125 : aggT Tryz.prog 125 = some true := by kernel_rfl
theorem cc125 : concT Tryz.prog 125 = true := by kernel_rfl
theorem zt125 : zeroT Tryz.prog 125 = some #[.slice none 0 0] := by kernel_rfl
theorem by126 : bytesT Tryz.prog 126 = some 88 := by kernel_rfl
theorem pl126_0 : placeT Tryz.prog 126 0 = some (0, 1) := by kernel_rfl
theorem pl126_2 : placeT Tryz.prog 126 2 = some (5, 1) := by kernel_rfl
theorem pl126_4 : placeT Tryz.prog 126 4 = some (7, 1) := by kernel_rfl
theorem ag127 : aggT Tryz.prog 127 = some true := by kernel_rfl
theorem cc127 : concT Tryz.prog 127 = true := by kernel_rfl
theorem fo127_1 : fOff Tryz.prog 127 1 = some 1 := by kernel_rfl
theorem fo127_3 : fOff Tryz.prog 127 3 = some 6 := by kernel_rfl
theorem fo127_5 : fOff Tryz.prog 127 5 = some 8 := by kernel_rfl
theorem sz128 : sizeT Tryz.prog 128 = some 1 := by kernel_rfl
theorem zt128 : zeroT Tryz.prog 128 = some #[.nilFunc] := by kernel_rfl
theorem by129 : bytesT Tryz.prog 129 = some 8 := by kernel_rfl
theorem sz130 : sizeT Tryz.prog 130 = some 1 := by kernel_rfl
theorem zt130 : zeroT Tryz.prog 130 = some #[.nilFunc] := by kernel_rfl
theorem by131 : bytesT Tryz.prog 131 = some 8 := by kernel_rfl
theorem sz132 : sizeT Tryz.prog 132 = some 1 := by kernel_rfl
theorem cc132 : concT Tryz.prog 132 = true := by kernel_rfl
theorem kn133 : knownT Tryz.prog 133 = true := by kernel_rfl
theorem fo133_0 : fOff Tryz.prog 133 0 = some 0 := by kernel_rfl
theorem zt133 : zeroT Tryz.prog 133 = some #[.slice none 0 0, .bool false] := by kernel_rfl
theorem by134 : bytesT Tryz.prog 134 = some 32 := by kernel_rfl
theorem pl134_0 : placeT Tryz.prog 134 0 = some (0, 1) := by kernel_rfl
theorem ag135 : aggT Tryz.prog 135 = some false := by kernel_rfl
theorem cc135 : concT Tryz.prog 135 = true := by kernel_rfl
theorem kn136 : knownT Tryz.prog 136 = true := by kernel_rfl
theorem zt136 : zeroT Tryz.prog 136 = some #[.int .u64 0] := by kernel_rfl
theorem by137 : bytesT Tryz.prog 137 = some 8 := by kernel_rfl
theorem sz139 : sizeT Tryz.prog 139 = some 1 := by kernel_rfl
theorem zt139 : zeroT Tryz.prog 139 = some #[.nilFunc] := by kernel_rfl
theorem by141 : bytesT Tryz.prog 141 = some 8 := by kernel_rfl
theorem sz142 : sizeT Tryz.prog 142 = some 1 := by kernel_rfl
theorem zt142 : zeroT Tryz.prog 142 = some #[.nilFunc] := by kernel_rfl
theorem by143 : bytesT Tryz.prog 143 = some 8 := by kernel_rfl
theorem sz144 : sizeT Tryz.prog 144 = some 1 := by kernel_rfl
theorem cc144 : concT Tryz.prog 144 = true := by kernel_rfl
theorem kn145 : knownT Tryz.prog 145 = true := by kernel_rfl
theorem fk145 : fieldsOkT Tryz.prog 145 = true := by kernel_rfl
theorem kn146 : knownT Tryz.prog 146 = true := by kernel_rfl
theorem fo146_0 : fOff Tryz.prog 146 0 = some 0 := by kernel_rfl
theorem zt146 : zeroT Tryz.prog 146 = some #[.int .i64 0, .int .u8 0, .int .u8 0, .int .u8 0, .int .u8 0, .int .u8 0, .int .u8 0, .int .u8 0, .int .u8 0, .int .u8 0, .int .u8 0, .int .u8 0, .int .u8 0, .int .u8 0, .int .u8 0, .int .u8 0, .int .u8 0, .int .u8 0, .int .u8 0, .int .u8 0, .int .u8 0, .int .u8 0, .int .u8 0, .int .u8 0, .int .u8 0, .int .u8 0, .int .u8 0, .int .u8 0, .int .u8 0, .int .u8 0, .int .u8 0, .int .u8 0, .int .u8 0, .int .u8 0, .int .u8 0, .int .u8 0, .int .u8 0, .int .u8 0, .int .u8 0, .int .u8 0, .int .u8 0, .int .u8 0, .int .u8 0, .int .u8 0, .int .u8 0, .int .u8 0, .int .u8 0, .int .u8 0, .int .u8 0, .int .u8 0, .int .u8 0, .int .u8 0, .int .u8 0, .int .u8 0, .int .u8 0, .int .u8 0, .int .u8 0, .int .u8 0, .int .u8 0, .int .u8 0, .int .u8 0, .int .u8 0, .int .u8 0, .int .u8 0, .int .u8 0] := by kernel_rfl
theorem by147 : bytesT Tryz.prog 147 = some 72 := by kernel_rfl
theorem pl147_0 : placeT Tryz.prog 147 0 = some (0, 1) := by kernel_rfl
theorem ag148 : aggT Tryz.prog 148 = some false := by kernel_rfl
theorem cc148 : concT Tryz.prog 148 = true := by kernel_rfl
theorem kn149 : knownT Tryz.prog 149 = true := by kernel_rfl
theorem ag150 : aggT Tryz.prog 150 = some false := by kernel_rfl
theorem cc150 : concT Tryz.prog 150 = true := by kernel_rfl
theorem kn151 : knownT Tryz.prog 151 = true := by kernel_rfl
theorem zt151 : zeroT Tryz.prog 151 = some #[.int .u32 0] := by kernel_rfl
theorem by152 : bytesT Tryz.prog 152 = some 8 := by kernel_rfl
theorem sz153 : sizeT Tryz.prog 153 = some 1 := by kernel_rfl
theorem zt153 : zeroT Tryz.prog 153 = some #[.nilFunc] := by kernel_rfl
theorem by154 : bytesT Tryz.prog 154 = some 8 := by kernel_rfl
theorem sz155 : sizeT Tryz.prog 155 = some 1 := by kernel_rfl
theorem cc155 : concT Tryz.prog 155 = true := by kernel_rfl
theorem kn156 : knownT Tryz.prog 156 = true := by kernel_rfl
theorem ag157 : aggT Tryz.prog 157 = some true := by kernel_rfl
theorem cc157 : concT Tryz.prog 157 = true := by kernel_rfl
theorem fo157_1 : fOff Tryz.prog 157 1 = some 3 := by kernel_rfl
theorem zt157 : zeroT Tryz.prog 157 = some #[.int .i64 0, .string ByteArray.empty, .string ByteArray.empty, .int .i64 0, .int .i64 0] := by kernel_rfl
theorem by158 : bytesT Tryz.prog 158 = some 56 := by kernel_rfl
theorem pl158_0 : placeT Tryz.prog 158 0 = some (0, 3) := by kernel_rfl
theorem pl158_2 : placeT Tryz.prog 158 2 = some (4, 1) := by kernel_rfl
theorem kn159 : knownT Tryz.prog 159 = true := by kernel_rfl
theorem zt159 : zeroT Tryz.prog 159 = some #[.map none] := by kernel_rfl
theorem by160 : bytesT Tryz.prog 160 = some 24 := by kernel_rfl
theorem pl160_0 : placeT Tryz.prog 160 0 = some (0, 1) := by kernel_rfl
theorem pl160_2 : placeT Tryz.prog 160 2 = some (2, 1) := by kernel_rfl
theorem kn161 : knownT Tryz.prog 161 = true := by kernel_rfl
theorem fo161_0 : fOff Tryz.prog 161 0 = some 0 := by kernel_rfl
theorem fo161_2 : fOff Tryz.prog 161 2 = some 2 := by kernel_rfl
theorem sz163 : sizeT Tryz.prog 163 = some 1 := by kernel_rfl
theorem zt163 : zeroT Tryz.prog 163 = some #[.nilFunc] := by kernel_rfl
theorem by164 : bytesT Tryz.prog 164 = some 24 := by kernel_rfl
theorem se164 : slE Tryz.prog 164 = some 1 := by kernel_rfl
theorem sz165 : sizeT Tryz.prog 165 = some 1 := by kernel_rfl
theorem zt165 : zeroT Tryz.prog 165 = some #[.nilFunc] := by kernel_rfl
theorem by166 : bytesT Tryz.prog 166 = some 104 := by kernel_rfl
theorem pl166_0 : placeT Tryz.prog 166 0 = some (0, 1) := by kernel_rfl
theorem pl166_2 : placeT Tryz.prog 166 2 = some (2, 1) := by kernel_rfl
theorem pl166_4 : placeT Tryz.prog 166 4 = some (4, 1) := by kernel_rfl
theorem pl166_6 : placeT Tryz.prog 166 6 = some (6, 1) := by kernel_rfl
theorem ag167 : aggT Tryz.prog 167 = some true := by kernel_rfl
theorem cc167 : concT Tryz.prog 167 = true := by kernel_rfl
theorem fo167_1 : fOff Tryz.prog 167 1 = some 1 := by kernel_rfl
theorem fo167_3 : fOff Tryz.prog 167 3 = some 3 := by kernel_rfl
theorem fo167_5 : fOff Tryz.prog 167 5 = some 5 := by kernel_rfl
theorem fo167_7 : fOff Tryz.prog 167 7 = some 7 := by kernel_rfl
theorem sz168 : sizeT Tryz.prog 168 = some 1 := by kernel_rfl
theorem sl168 : slT Tryz.prog 168 = some 167 := by kernel_rfl
theorem zt168 : zeroT Tryz.prog 168 = some #[.slice none 0 0] := by kernel_rfl
theorem by169 : bytesT Tryz.prog 169 = some 8 := by kernel_rfl
theorem sz170 : sizeT Tryz.prog 170 = some 1 := by kernel_rfl
theorem sl170 : slT Tryz.prog 170 = some 173 := by kernel_rfl
theorem zt170 : zeroT Tryz.prog 170 = some #[.slice none 0 0] := by kernel_rfl
theorem by171 : bytesT Tryz.prog 171 = some 8 := by kernel_rfl
theorem sz172 : sizeT Tryz.prog 172 = some 3 := by kernel_rfl
theorem fk172 : fieldsOkT Tryz.prog 172 = true := by kernel_rfl
theorem pl172_1 : placeT Tryz.prog 172 1 = some (1, 1) := by kernel_rfl
theorem ag173 : aggT Tryz.prog 173 = some true := by kernel_rfl
theorem cc173 : concT Tryz.prog 173 = true := by kernel_rfl
theorem fo173_1 : fOff Tryz.prog 173 1 = some 1 := by kernel_rfl
theorem zt173 : zeroT Tryz.prog 173 = some #[.int .i64 0, .int .i64 0, .string ByteArray.empty] := by kernel_rfl
theorem by174 : bytesT Tryz.prog 174 = some 8 := by kernel_rfl
theorem sz176 : sizeT Tryz.prog 176 = some 1 := by kernel_rfl
theorem zt176 : zeroT Tryz.prog 176 = some #[.nilFunc] := by kernel_rfl
theorem by177 : bytesT Tryz.prog 177 = some 8 := by kernel_rfl
theorem sz178 : sizeT Tryz.prog 178 = some 1 := by kernel_rfl
theorem ag179 : aggT Tryz.prog 179 = some false := by kernel_rfl
theorem cc179 : concT Tryz.prog 179 = true := by kernel_rfl
theorem kn180 : knownT Tryz.prog 180 = true := by kernel_rfl
theorem ag181 : aggT Tryz.prog 181 = some true := by kernel_rfl
theorem ar181 : arN Tryz.prog 181 = some (24, 1) := by kernel_rfl
theorem ag182 : aggT Tryz.prog 182 = some false := by kernel_rfl
theorem cc182 : concT Tryz.prog 182 = true := by kernel_rfl
theorem kn183 : knownT Tryz.prog 183 = true := by kernel_rfl
theorem ag185 : aggT Tryz.prog 185 = some false := by kernel_rfl
theorem cc185 : concT Tryz.prog 185 = true := by kernel_rfl
theorem kn186 : knownT Tryz.prog 186 = true := by kernel_rfl
theorem ag187 : aggT Tryz.prog 187 = some false := by kernel_rfl
theorem ni187 : notInt Tryz.prog 187 = true := by kernel_rfl
theorem cc187 : concT Tryz.prog 187 = true := by kernel_rfl
theorem kn189 : knownT Tryz.prog 189 = true := by kernel_rfl
theorem ag190 : aggT Tryz.prog 190 = some false := by kernel_rfl
theorem cc190 : concT Tryz.prog 190 = true := by kernel_rfl
theorem kn191 : knownT Tryz.prog 191 = true := by kernel_rfl
theorem ag192 : aggT Tryz.prog 192 = some true := by kernel_rfl
theorem ar192 : arN Tryz.prog 192 = some (4, 1) := by kernel_rfl
theorem ag193 : aggT Tryz.prog 193 = some true := by kernel_rfl
theorem ar193 : arN Tryz.prog 193 = some (4, 1) := by kernel_rfl
theorem ag194 : aggT Tryz.prog 194 = some true := by kernel_rfl
theorem cc194 : concT Tryz.prog 194 = true := by kernel_rfl
theorem fo194_1 : fOff Tryz.prog 194 1 = some 1 := by kernel_rfl
theorem zt194 : zeroT Tryz.prog 194 = some #[.int .u64 0, .slice none 0 0, .slice none 0 0, .slice none 0 0, .slice none 0 0, .bool false, .bool false, .bool false, .bool false] := by kernel_rfl
theorem by195 : bytesT Tryz.prog 195 = some 112 := by kernel_rfl
theorem pl195_0 : placeT Tryz.prog 195 0 = some (0, 1) := by kernel_rfl
theorem pl195_2 : placeT Tryz.prog 195 2 = some (5, 4) := by kernel_rfl
theorem kn196 : knownT Tryz.prog 196 = true := by kernel_rfl
theorem ag197 : aggT Tryz.prog 197 = some true := by kernel_rfl
theorem cc197 : concT Tryz.prog 197 = true := by kernel_rfl
theorem fo197_1 : fOff Tryz.prog 197 1 = some 1 := by kernel_rfl
theorem sz198 : sizeT Tryz.prog 198 = some 9 := by kernel_rfl
theorem fk198 : fieldsOkT Tryz.prog 198 = true := by kernel_rfl
theorem pl198_1 : placeT Tryz.prog 198 1 = some (1, 8) := by kernel_rfl
theorem kn199 : knownT Tryz.prog 199 = true := by kernel_rfl
theorem ag200 : aggT Tryz.prog 200 = some false := by kernel_rfl
theorem cc200 : concT Tryz.prog 200 = true := by kernel_rfl
theorem kn202 : knownT Tryz.prog 202 = true := by kernel_rfl
theorem ag203 : aggT Tryz.prog 203 = some false := by kernel_rfl
theorem cc203 : concT Tryz.prog 203 = true := by kernel_rfl
theorem kn204 : knownT Tryz.prog 204 = true := by kernel_rfl
theorem ag206 : aggT Tryz.prog 206 = some false := by kernel_rfl
theorem cc206 : concT Tryz.prog 206 = true := by kernel_rfl
theorem kn208 : knownT Tryz.prog 208 = true := by kernel_rfl
theorem ag209 : aggT Tryz.prog 209 = some false := by kernel_rfl
theorem cc209 : concT Tryz.prog 209 = true := by kernel_rfl
theorem kn210 : knownT Tryz.prog 210 = true := by kernel_rfl
theorem ag211 : aggT Tryz.prog 211 = some false := by kernel_rfl
theorem cc211 : concT Tryz.prog 211 = true := by kernel_rfl
theorem kn212 : knownT Tryz.prog 212 = true := by kernel_rfl
theorem si212 : (slT Tryz.prog 212).isSome = true := by kernel_rfl
theorem ag213 : aggT Tryz.prog 213 = some false := by kernel_rfl
theorem cc213 : concT Tryz.prog 213 = true := by kernel_rfl
theorem kn214 : knownT Tryz.prog 214 = true := by kernel_rfl
theorem zt214 : zeroT Tryz.prog 214 = some #[.pointer none] := by kernel_rfl
theorem by215 : bytesT Tryz.prog 215 = some 8 := by kernel_rfl
theorem sz216 : sizeT Tryz.prog 216 = some 1 := by kernel_rfl
theorem cc216 : concT Tryz.prog 216 = true := by kernel_rfl
theorem kn217 : knownT Tryz.prog 217 = true := by kernel_rfl
theorem ag218 : aggT Tryz.prog 218 = some false := by kernel_rfl
theorem cc218 : concT Tryz.prog 218 = true := by kernel_rfl
theorem kn219 : knownT Tryz.prog 219 = true := by kernel_rfl
theorem ag220 : aggT Tryz.prog 220 = some false := by kernel_rfl
theorem cc220 : concT Tryz.prog 220 = true := by kernel_rfl
theorem kn221 : knownT Tryz.prog 221 = true := by kernel_rfl
theorem fo221_0 : fOff Tryz.prog 221 0 = some 0 := by kernel_rfl
theorem fo221_2 : fOff Tryz.prog 221 2 = some 2 := by kernel_rfl
theorem fo221_4 : fOff Tryz.prog 221 4 = some 4 := by kernel_rfl
theorem zt221 : zeroT Tryz.prog 221 = some #[.pointer none, .int .i64 0, .int .u64 0, .int .i64 0, .slice none 0 0, .int .i64 0] := by kernel_rfl
theorem by222 : bytesT Tryz.prog 222 = some 64 := by kernel_rfl
theorem pl222_0 : placeT Tryz.prog 222 0 = some (0, 1) := by kernel_rfl
theorem pl222_2 : placeT Tryz.prog 222 2 = some (2, 1) := by kernel_rfl
theorem pl222_4 : placeT Tryz.prog 222 4 = some (4, 1) := by kernel_rfl
theorem ag223 : aggT Tryz.prog 223 = some false := by kernel_rfl
theorem pt223 : ptrT Tryz.prog 223 = true := by kernel_rfl
theorem sz224 : sizeT Tryz.prog 224 = some 3 := by kernel_rfl
theorem fk224 : fieldsOkT Tryz.prog 224 = true := by kernel_rfl
theorem pl224_1 : placeT Tryz.prog 224 1 = some (1, 1) := by kernel_rfl
theorem ag225 : aggT Tryz.prog 225 = some true := by kernel_rfl
theorem cc225 : concT Tryz.prog 225 = true := by kernel_rfl
theorem fo225_1 : fOff Tryz.prog 225 1 = some 1 := by kernel_rfl
theorem zt225 : zeroT Tryz.prog 225 = some #[.pointer none, .int .u64 0, .bool false] := by kernel_rfl
theorem by226 : bytesT Tryz.prog 226 = some 72 := by kernel_rfl
theorem zt226 : zeroT Tryz.prog 226 = some #[.pointer none, .int .u64 0, .bool false, .pointer none, .int .u64 0, .bool false, .pointer none, .int .u64 0, .bool false] := by kernel_rfl
theorem by227 : bytesT Tryz.prog 227 = some 104 := by kernel_rfl
theorem pl227_0 : placeT Tryz.prog 227 0 = some (0, 1) := by kernel_rfl
theorem pl227_2 : placeT Tryz.prog 227 2 = some (2, 1) := by kernel_rfl
theorem pl227_4 : placeT Tryz.prog 227 4 = some (12, 1) := by kernel_rfl
theorem kn228 : knownT Tryz.prog 228 = true := by kernel_rfl
theorem fo228_0 : fOff Tryz.prog 228 0 = some 0 := by kernel_rfl
theorem fo228_2 : fOff Tryz.prog 228 2 = some 2 := by kernel_rfl
theorem fo228_4 : fOff Tryz.prog 228 4 = some 12 := by kernel_rfl
theorem sz229 : sizeT Tryz.prog 229 = some 40 := by kernel_rfl
theorem cc229 : concT Tryz.prog 229 = true := by kernel_rfl
theorem sz230 : sizeT Tryz.prog 230 = some 200 := by kernel_rfl
theorem cc230 : concT Tryz.prog 230 = true := by kernel_rfl
theorem kn231 : knownT Tryz.prog 231 = true := by kernel_rfl
theorem fo231_0 : fOff Tryz.prog 231 0 = some 0 := by kernel_rfl
theorem fo231_2 : fOff Tryz.prog 231 2 = some 2 := by kernel_rfl
theorem zt231 : zeroT Tryz.prog 231 = some ((#[.int .u64 0, .int .i64 0, .int .i64 0] : Array Value) ++ (Array.replicate 200 (.int .u8 0) : Array Value)) := by kernel_rfl
theorem by232 : bytesT Tryz.prog 232 = some 224 := by kernel_rfl
theorem pl232_0 : placeT Tryz.prog 232 0 = some (0, 1) := by kernel_rfl
theorem pl232_2 : placeT Tryz.prog 232 2 = some (2, 1) := by kernel_rfl
theorem ag233 : aggT Tryz.prog 233 = some false := by kernel_rfl
theorem cc233 : concT Tryz.prog 233 = true := by kernel_rfl
theorem kn234 : knownT Tryz.prog 234 = true := by kernel_rfl
theorem ag235 : aggT Tryz.prog 235 = some true := by kernel_rfl
theorem cc235 : concT Tryz.prog 235 = true := by kernel_rfl
theorem fo235_1 : fOff Tryz.prog 235 1 = some 1 := by kernel_rfl
theorem zt235 : zeroT Tryz.prog 235 = some #[.slice none 0 0, .slice none 0 0, .int .i64 0] := by kernel_rfl
theorem by236 : bytesT Tryz.prog 236 = some 56 := by kernel_rfl
theorem pl236_0 : placeT Tryz.prog 236 0 = some (0, 1) := by kernel_rfl
theorem pl236_2 : placeT Tryz.prog 236 2 = some (2, 1) := by kernel_rfl
theorem kn237 : knownT Tryz.prog 237 = true := by kernel_rfl
theorem ag239 : aggT Tryz.prog 239 = some false := by kernel_rfl
theorem cc239 : concT Tryz.prog 239 = true := by kernel_rfl
theorem kn240 : knownT Tryz.prog 240 = true := by kernel_rfl
theorem ag241 : aggT Tryz.prog 241 = some false := by kernel_rfl
theorem cc241 : concT Tryz.prog 241 = true := by kernel_rfl
theorem kn242 : knownT Tryz.prog 242 = true := by kernel_rfl
theorem ag243 : aggT Tryz.prog 243 = some false := by kernel_rfl
theorem cc243 : concT Tryz.prog 243 = true := by kernel_rfl
theorem kn244 : knownT Tryz.prog 244 = true := by kernel_rfl
theorem fk244 : fieldsOkT Tryz.prog 244 = true := by kernel_rfl
theorem kn245 : knownT Tryz.prog 245 = true := by kernel_rfl
theorem fk245 : fieldsOkT Tryz.prog 245 = true := by kernel_rfl
theorem kn246 : knownT Tryz.prog 246 = true := by kernel_rfl
theorem ag248 : aggT Tryz.prog 248 = some false := by kernel_rfl
theorem cc248 : concT Tryz.prog 248 = true := by kernel_rfl
theorem kn249 : knownT Tryz.prog 249 = true := by kernel_rfl
theorem ag251 : aggT Tryz.prog 251 = some false := by kernel_rfl
theorem cc251 : concT Tryz.prog 251 = true := by kernel_rfl
theorem kn252 : knownT Tryz.prog 252 = true := by kernel_rfl
theorem zt252 : zeroT Tryz.prog 252 = some #[.map none] := by kernel_rfl
theorem by253 : bytesT Tryz.prog 253 = some 8 := by kernel_rfl
theorem pl253_0 : placeT Tryz.prog 253 0 = some (0, 1) := by kernel_rfl
theorem kn254 : knownT Tryz.prog 254 = true := by kernel_rfl
theorem fo254_0 : fOff Tryz.prog 254 0 = some 0 := by kernel_rfl
theorem sz255 : sizeT Tryz.prog 255 = some 1 := by kernel_rfl
theorem zt255 : zeroT Tryz.prog 255 = some #[.nilFunc] := by kernel_rfl
theorem by257 : bytesT Tryz.prog 257 = some 8 := by kernel_rfl
theorem sz258 : sizeT Tryz.prog 258 = some 1 := by kernel_rfl
theorem zt258 : zeroT Tryz.prog 258 = some #[.nilFunc] := by kernel_rfl
theorem by260 : bytesT Tryz.prog 260 = some 8 := by kernel_rfl
theorem sz261 : sizeT Tryz.prog 261 = some 1 := by kernel_rfl
theorem zt261 : zeroT Tryz.prog 261 = some #[.nilFunc] := by kernel_rfl
theorem by262 : bytesT Tryz.prog 262 = some 8 := by kernel_rfl
theorem sz263 : sizeT Tryz.prog 263 = some 1 := by kernel_rfl
theorem zt263 : zeroT Tryz.prog 263 = some #[.nilFunc] := by kernel_rfl
theorem by264 : bytesT Tryz.prog 264 = some 8 := by kernel_rfl
theorem sz265 : sizeT Tryz.prog 265 = some 1 := by kernel_rfl
theorem zt265 : zeroT Tryz.prog 265 = some #[.nilFunc] := by kernel_rfl
theorem by266 : bytesT Tryz.prog 266 = some 32 := by kernel_rfl
theorem pl266_0 : placeT Tryz.prog 266 0 = some (0, 1) := by kernel_rfl
theorem pl266_2 : placeT Tryz.prog 266 2 = some (2, 1) := by kernel_rfl
theorem kn267 : knownT Tryz.prog 267 = true := by kernel_rfl
theorem fo267_0 : fOff Tryz.prog 267 0 = some 0 := by kernel_rfl
theorem fo267_2 : fOff Tryz.prog 267 2 = some 2 := by kernel_rfl
theorem sz268 : sizeT Tryz.prog 268 = some 1 := by kernel_rfl
theorem zt268 : zeroT Tryz.prog 268 = some #[.nilFunc] := by kernel_rfl
theorem by269 : bytesT Tryz.prog 269 = some 8 := by kernel_rfl
theorem sz270 : sizeT Tryz.prog 270 = some 1 := by kernel_rfl
theorem zt270 : zeroT Tryz.prog 270 = some #[.nilFunc] := by kernel_rfl
theorem by271 : bytesT Tryz.prog 271 = some 8 := by kernel_rfl
theorem sz273 : sizeT Tryz.prog 273 = some 1 := by kernel_rfl
theorem zt273 : zeroT Tryz.prog 273 = some #[.nilFunc] := by kernel_rfl
theorem by274 : bytesT Tryz.prog 274 = some 8 := by kernel_rfl
theorem sz275 : sizeT Tryz.prog 275 = some 1 := by kernel_rfl
theorem zt275 : zeroT Tryz.prog 275 = some #[.nilFunc] := by kernel_rfl
theorem by276 : bytesT Tryz.prog 276 = some 8 := by kernel_rfl
theorem sz277 : sizeT Tryz.prog 277 = some 1 := by kernel_rfl
theorem zt277 : zeroT Tryz.prog 277 = some #[.nilFunc] := by kernel_rfl
theorem by278 : bytesT Tryz.prog 278 = some 8 := by kernel_rfl
theorem sz279 : sizeT Tryz.prog 279 = some 1 := by kernel_rfl
theorem zt279 : zeroT Tryz.prog 279 = some #[.nilFunc] := by kernel_rfl
theorem by280 : bytesT Tryz.prog 280 = some 8 := by kernel_rfl
theorem sz282 : sizeT Tryz.prog 282 = some 1 := by kernel_rfl
theorem zt282 : zeroT Tryz.prog 282 = some #[.nilFunc] := by kernel_rfl
theorem by283 : bytesT Tryz.prog 283 = some 8 := by kernel_rfl
theorem sz285 : sizeT Tryz.prog 285 = some 1 := by kernel_rfl
theorem zt285 : zeroT Tryz.prog 285 = some #[.nilFunc] := by kernel_rfl
theorem by286 : bytesT Tryz.prog 286 = some 8 := by kernel_rfl
theorem sz287 : sizeT Tryz.prog 287 = some 1 := by kernel_rfl
theorem zt287 : zeroT Tryz.prog 287 = some #[.nilFunc] := by kernel_rfl
theorem by289 : bytesT Tryz.prog 289 = some 8 := by kernel_rfl
theorem sz290 : sizeT Tryz.prog 290 = some 1 := by kernel_rfl
theorem zt290 : zeroT Tryz.prog 290 = some #[.nilFunc] := by kernel_rfl
theorem by291 : bytesT Tryz.prog 291 = some 8 := by kernel_rfl
theorem sz292 : sizeT Tryz.prog 292 = some 1 := by kernel_rfl
theorem zt292 : zeroT Tryz.prog 292 = some #[.nilFunc] := by kernel_rfl
theorem by293 : bytesT Tryz.prog 293 = some 32 := by kernel_rfl
theorem zt293 : zeroT Tryz.prog 293 = some #[.int .u8 0, .int .u8 0, .int .u8 0, .int .u8 0, .int .u8 0, .int .u8 0, .int .u8 0, .int .u8 0, .int .u8 0, .int .u8 0, .int .u8 0, .int .u8 0, .int .u8 0, .int .u8 0, .int .u8 0, .int .u8 0, .int .u8 0, .int .u8 0, .int .u8 0, .int .u8 0, .int .u8 0, .int .u8 0, .int .u8 0, .int .u8 0, .int .u8 0, .int .u8 0, .int .u8 0, .int .u8 0, .int .u8 0, .int .u8 0, .int .u8 0, .int .u8 0] := by kernel_rfl
theorem by294 : bytesT Tryz.prog 294 = some 8 := by kernel_rfl
theorem sz295 : sizeT Tryz.prog 295 = some 1 := by kernel_rfl
theorem zt295 : zeroT Tryz.prog 295 = some #[.nilFunc] := by kernel_rfl
theorem by296 : bytesT Tryz.prog 296 = some 8 := by kernel_rfl
theorem sz297 : sizeT Tryz.prog 297 = some 4 := by kernel_rfl
theorem fk297 : fieldsOkT Tryz.prog 297 = true := by kernel_rfl
theorem pl297_1 : placeT Tryz.prog 297 1 = some (1, 1) := by kernel_rfl
theorem pl297_3 : placeT Tryz.prog 297 3 = some (3, 1) := by kernel_rfl
theorem kn298 : knownT Tryz.prog 298 = true := by kernel_rfl
theorem fo298_0 : fOff Tryz.prog 298 0 = some 0 := by kernel_rfl
theorem fo298_2 : fOff Tryz.prog 298 2 = some 2 := by kernel_rfl
theorem zt298 : zeroT Tryz.prog 298 = some #[.pointer none, .pointer none, .pointer none, .string ByteArray.empty] := by kernel_rfl
theorem ar299 : arN Tryz.prog 299 = some (0, 1) := by kernel_rfl
theorem ag300 : aggT Tryz.prog 300 = some true := by kernel_rfl
theorem fk300 : fieldsOkT Tryz.prog 300 = true := by kernel_rfl
theorem kn301 : knownT Tryz.prog 301 = true := by kernel_rfl
theorem ag302 : aggT Tryz.prog 302 = some false := by kernel_rfl
theorem u8302 : u8T Tryz.prog 302 = true := by kernel_rfl
theorem ag303 : aggT Tryz.prog 303 = some false := by kernel_rfl
theorem u8303 : u8T Tryz.prog 303 = true := by kernel_rfl
theorem ag304 : aggT Tryz.prog 304 = some false := by kernel_rfl
theorem cc304 : concT Tryz.prog 304 = true := by kernel_rfl
theorem kn305 : knownT Tryz.prog 305 = true := by kernel_rfl
theorem zt305 : zeroT Tryz.prog 305 = some #[.int .i32 0] := by kernel_rfl
theorem by306 : bytesT Tryz.prog 306 = some 4 := by kernel_rfl
theorem ag307 : aggT Tryz.prog 307 = some true := by kernel_rfl
theorem cc307 : concT Tryz.prog 307 = true := by kernel_rfl
theorem fo307_1 : fOff Tryz.prog 307 1 = some 1 := by kernel_rfl
theorem fo307_3 : fOff Tryz.prog 307 3 = some 3 := by kernel_rfl
theorem fo307_5 : fOff Tryz.prog 307 5 = some 5 := by kernel_rfl
theorem fo307_7 : fOff Tryz.prog 307 7 = some 7 := by kernel_rfl
theorem fo307_9 : fOff Tryz.prog 307 9 = some 9 := by kernel_rfl
theorem zt307 : zeroT Tryz.prog 307 = some #[.int .u64 0, .int .u64 0, .int .u32 0, .int .u8 0, .int .u8 0, .int .u8 0, .int .u8 0, .nilFunc, .pointer none, .int .i32 0, .int .i32 0] := by kernel_rfl
theorem by308 : bytesT Tryz.prog 308 = some 48 := by kernel_rfl
theorem pl308_0 : placeT Tryz.prog 308 0 = some (0, 1) := by kernel_rfl
theorem pl308_2 : placeT Tryz.prog 308 2 = some (2, 1) := by kernel_rfl
theorem pl308_4 : placeT Tryz.prog 308 4 = some (4, 1) := by kernel_rfl
theorem pl308_6 : placeT Tryz.prog 308 6 = some (6, 1) := by kernel_rfl
theorem pl308_8 : placeT Tryz.prog 308 8 = some (8, 1) := by kernel_rfl
theorem pl308_10 : placeT Tryz.prog 308 10 = some (10, 1) := by kernel_rfl
theorem kn309 : knownT Tryz.prog 309 = true := by kernel_rfl
theorem cl2 : Callable Tryz.prog 2 := ⟨_, Tryz.func2, by kernel_rfl, by kernel_rfl⟩
theorem cl6 : Callable Tryz.prog 6 := ⟨_, Tryz.func6, by kernel_rfl, by kernel_rfl⟩
theorem cl10 : Callable Tryz.prog 10 := ⟨_, Tryz.func10, by kernel_rfl, by kernel_rfl⟩
theorem cl14 : Callable Tryz.prog 14 := ⟨_, Tryz.func14, by kernel_rfl, by kernel_rfl⟩
theorem cl18 : Callable Tryz.prog 18 := ⟨_, Tryz.func18, by kernel_rfl, by kernel_rfl⟩
theorem cl22 : Callable Tryz.prog 22 := ⟨_, Tryz.func22, by kernel_rfl, by kernel_rfl⟩
theorem cl26 : Callable Tryz.prog 26 := ⟨_, Tryz.func26, by kernel_rfl, by kernel_rfl⟩
theorem cl30 : Callable Tryz.prog 30 := ⟨_, Tryz.func30, by kernel_rfl, by kernel_rfl⟩
theorem cl34 : Callable Tryz.prog 34 := ⟨_, Tryz.func34, by kernel_rfl, by kernel_rfl⟩
theorem cl38 : Callable Tryz.prog 38 := ⟨_, Tryz.func38, by kernel_rfl, by kernel_rfl⟩
theorem cl42 : Callable Tryz.prog 42 := ⟨_, Tryz.func42, by kernel_rfl, by kernel_rfl⟩
theorem cl46 : Callable Tryz.prog 46 := ⟨_, Tryz.func46, by kernel_rfl, by kernel_rfl⟩
theorem cl50 : Callable Tryz.prog 50 := ⟨_, Tryz.func50, by kernel_rfl, by kernel_rfl⟩
theorem cl54 : Callable Tryz.prog 54 := ⟨_, Tryz.func54, by kernel_rfl, by kernel_rfl⟩
theorem cl58 : Callable Tryz.prog 58 := ⟨_, Tryz.func58, by kernel_rfl, by kernel_rfl⟩
theorem cl62 : Callable Tryz.prog 62 := ⟨_, Tryz.func62, by kernel_rfl, by kernel_rfl⟩
theorem cl66 : Callable Tryz.prog 66 := ⟨_, Tryz.func66, by kernel_rfl, by kernel_rfl⟩
theorem cl70 : Callable Tryz.prog 70 := ⟨_, Tryz.func70, by kernel_rfl, by kernel_rfl⟩
theorem cl74 : Callable Tryz.prog 74 := ⟨_, Tryz.func74, by kernel_rfl, by kernel_rfl⟩
theorem cl78 : Callable Tryz.prog 78 := ⟨_, Tryz.func78, by kernel_rfl, by kernel_rfl⟩
theorem cl82 : Callable Tryz.prog 82 := ⟨_, Tryz.func82, by kernel_rfl, by kernel_rfl⟩
theorem cl86 : Callable Tryz.prog 86 := ⟨_, Tryz.func86, by kernel_rfl, by kernel_rfl⟩
theorem cl91 : Callable Tryz.prog 91 := ⟨_, Tryz.func91, by kernel_rfl, by kernel_rfl⟩
theorem cl95 : Callable Tryz.prog 95 := ⟨_, Tryz.func95, by kernel_rfl, by kernel_rfl⟩
theorem cl99 : Callable Tryz.prog 99 := ⟨_, Tryz.func99, by kernel_rfl, by kernel_rfl⟩
theorem cl103 : Callable Tryz.prog 103 := ⟨_, Tryz.func103, by kernel_rfl, by kernel_rfl⟩
theorem cl107 : Callable Tryz.prog 107 := ⟨_, Tryz.func107, by kernel_rfl, by kernel_rfl⟩
theorem cl111 : Callable Tryz.prog 111 := ⟨_, Tryz.func111, by kernel_rfl, by kernel_rfl⟩
theorem cl115 : Callable Tryz.prog 115 := ⟨_, Tryz.func115, by kernel_rfl, by kernel_rfl⟩
theorem cl119 : Callable Tryz.prog 119 := ⟨_, Tryz.func119, by kernel_rfl, by kernel_rfl⟩
theorem cl123 : Callable Tryz.prog 123 := ⟨_, Tryz.func123, by kernel_rfl, by kernel_rfl⟩
theorem cl127 : Callable Tryz.prog 127 := ⟨_, Tryz.func127, by kernel_rfl, by kernel_rfl⟩
theorem cl131 : Callable Tryz.prog 131 := ⟨_, Tryz.func131, by kernel_rfl, by kernel_rfl⟩
theorem cl135 : Callable Tryz.prog 135 := ⟨_, Tryz.func135, by kernel_rfl, by kernel_rfl⟩
theorem cl139 : Callable Tryz.prog 139 := ⟨_, Tryz.func139, by kernel_rfl, by kernel_rfl⟩
theorem cl143 : Callable Tryz.prog 143 := ⟨_, Tryz.func143, by kernel_rfl, by kernel_rfl⟩
theorem cl147 : Callable Tryz.prog 147 := ⟨_, Tryz.func147, by kernel_rfl, by kernel_rfl⟩
theorem cl151 : Callable Tryz.prog 151 := ⟨_, Tryz.func151, by kernel_rfl, by kernel_rfl⟩
theorem cl155 : Callable Tryz.prog 155 := ⟨_, Tryz.func155, by kernel_rfl, by kernel_rfl⟩
theorem cl159 : Callable Tryz.prog 159 := ⟨_, Tryz.func159, by kernel_rfl, by kernel_rfl⟩
theorem cl163 : Callable Tryz.prog 163 := ⟨_, Tryz.func163, by kernel_rfl, by kernel_rfl⟩
theorem cl167 : Callable Tryz.prog 167 := ⟨_, Tryz.func167, by kernel_rfl, by kernel_rfl⟩
theorem cl171 : Callable Tryz.prog 171 := ⟨_, Tryz.func171, by kernel_rfl, by kernel_rfl⟩
theorem cl175 : Callable Tryz.prog 175 := ⟨_, Tryz.func175, by kernel_rfl, by kernel_rfl⟩
theorem cl179 : Callable Tryz.prog 179 := ⟨_, Tryz.func179, by kernel_rfl, by kernel_rfl⟩
theorem cl184 : Callable Tryz.prog 184 := ⟨_, Tryz.func184, by kernel_rfl, by kernel_rfl⟩
theorem cl204 : Callable Tryz.prog 204 := ⟨_, Tryz.func204, by kernel_rfl, by kernel_rfl⟩
end Go.Fw
