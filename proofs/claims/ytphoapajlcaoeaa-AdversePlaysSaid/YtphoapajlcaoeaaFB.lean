/- Facts on the types and functions of the seat. -/
import Derived.Test.YtphoapajlcaoeaaProg
import Derived.Test.YtphoapajlcaoeaaG1
set_option linter.unusedVariables false
namespace Go.Proofs.Ytphoapajlcaoeaa
open Go Go.X
theorem sz2 : sizQ Try.prog 2 = some 1 := by kernel_rfl
theorem by2 : bytQ Try.prog 2 = some 8 := by kernel_rfl
theorem ag2 : aggQ Try.prog 2 = some false := by kernel_rfl
theorem in2 : intQ Try.prog 2 = some IntKind.i64 := by kernel_rfl
theorem iu2 : ((Try.prog).underlying 2).isSome = true := by kernel_rfl
theorem ze2 : zerQ Try.prog 2 = some (Value.int IntKind.i64 0) := by kernel_rfl
theorem sz3 : sizQ Try.prog 3 = some 1 := by kernel_rfl
theorem by3 : bytQ Try.prog 3 = some 8 := by kernel_rfl
theorem ag3 : aggQ Try.prog 3 = some false := by kernel_rfl
theorem in3 : intQ Try.prog 3 = some IntKind.i64 := by kernel_rfl
theorem ui3 : (Try.prog).underlying 3 = some (.int IntKind.i64) := by kernel_rfl
theorem iu3 : ((Try.prog).underlying 3).isSome = true := by kernel_rfl
theorem ze3 : zerQ Try.prog 3 = some (Value.int IntKind.i64 0) := by kernel_rfl
theorem sz4 : sizQ Try.prog 4 = some 1 := by kernel_rfl
theorem by4 : bytQ Try.prog 4 = some 1 := by kernel_rfl
theorem ag4 : aggQ Try.prog 4 = some false := by kernel_rfl
theorem ze4 : zerQ Try.prog 4 = some (Value.bool false) := by kernel_rfl
theorem sz5 : sizQ Try.prog 5 = some 1 := by kernel_rfl
theorem by5 : bytQ Try.prog 5 = some 1 := by kernel_rfl
theorem ag5 : aggQ Try.prog 5 = some false := by kernel_rfl
theorem in5 : intQ Try.prog 5 = some IntKind.u8 := by kernel_rfl
theorem ui5 : (Try.prog).underlying 5 = some (.int IntKind.u8) := by kernel_rfl
theorem iu5 : ((Try.prog).underlying 5).isSome = true := by kernel_rfl
theorem ze5 : zerQ Try.prog 5 = some (Value.int IntKind.u8 0) := by kernel_rfl
theorem sz9 : sizQ Try.prog 9 = some 1 := by kernel_rfl
theorem ag9 : aggQ Try.prog 9 = some false := by kernel_rfl
theorem un9 : (Try.prog).underlying 9 = some .string := by kernel_rfl
theorem sl22 : slQ Try.prog 22 = some 3 := by kernel_rfl
theorem us22 : (Try.prog).underlying 22 = some (.slice 3) := by kernel_rfl
theorem sz23 : sizQ Try.prog 23 = some 4 := by kernel_rfl
theorem ag23 : aggQ Try.prog 23 = some true := by kernel_rfl
theorem ar23 : arQ Try.prog 23 = some (4, 2) := by kernel_rfl
theorem ze23 : zerQ Try.prog 23 = some
  (Value.agg
    {
      toList :=
        [Value.int IntKind.i64 0, Value.int IntKind.i64 0, Value.int IntKind.i64 0,
          Value.int IntKind.i64 0] }) := by kernel_rfl
theorem sz24 : sizQ Try.prog 24 = some 1 := by kernel_rfl
theorem ag24 : aggQ Try.prog 24 = some false := by kernel_rfl
theorem in24 : intQ Try.prog 24 = some IntKind.u64 := by kernel_rfl
theorem iu24 : ((Try.prog).underlying 24).isSome = true := by kernel_rfl
theorem sz26 : sizQ Try.prog 26 = some 26 := by kernel_rfl
theorem ag26 : aggQ Try.prog 26 = some true := by kernel_rfl
theorem fl26_0 : fldQ Try.prog 26 0 = some (0, 3) := by kernel_rfl
theorem fl26_1 : fldQ Try.prog 26 1 = some (1, 3) := by kernel_rfl
theorem fl26_2 : fldQ Try.prog 26 2 = some (2, 3) := by kernel_rfl
theorem fl26_3 : fldQ Try.prog 26 3 = some (3, 3) := by kernel_rfl
theorem fl26_4 : fldQ Try.prog 26 4 = some (4, 3) := by kernel_rfl
theorem fl26_5 : fldQ Try.prog 26 5 = some (5, 3) := by kernel_rfl
theorem fl26_6 : fldQ Try.prog 26 6 = some (6, 3) := by kernel_rfl
theorem fl26_7 : fldQ Try.prog 26 7 = some (7, 23) := by kernel_rfl
theorem fl26_8 : fldQ Try.prog 26 8 = some (11, 3) := by kernel_rfl
theorem fl26_9 : fldQ Try.prog 26 9 = some (12, 3) := by kernel_rfl
theorem fl26_10 : fldQ Try.prog 26 10 = some (13, 3) := by kernel_rfl
theorem fl26_11 : fldQ Try.prog 26 11 = some (14, 3) := by kernel_rfl
theorem fl26_12 : fldQ Try.prog 26 12 = some (15, 3) := by kernel_rfl
theorem fl26_13 : fldQ Try.prog 26 13 = some (16, 3) := by kernel_rfl
theorem fl26_14 : fldQ Try.prog 26 14 = some (17, 3) := by kernel_rfl
theorem fl26_15 : fldQ Try.prog 26 15 = some (18, 3) := by kernel_rfl
theorem fl26_16 : fldQ Try.prog 26 16 = some (19, 3) := by kernel_rfl
theorem fl26_17 : fldQ Try.prog 26 17 = some (20, 3) := by kernel_rfl
theorem fl26_18 : fldQ Try.prog 26 18 = some (21, 2) := by kernel_rfl
theorem fl26_19 : fldQ Try.prog 26 19 = some (22, 3) := by kernel_rfl
theorem fl26_20 : fldQ Try.prog 26 20 = some (23, 3) := by kernel_rfl
theorem fl26_21 : fldQ Try.prog 26 21 = some (24, 3) := by kernel_rfl
theorem fl26_22 : fldQ Try.prog 26 22 = some (25, 24) := by kernel_rfl
theorem pl26 : plQ Try.prog 26 = some [(0, 1), (1, 1), (2, 1), (3, 1), (4, 1), (5, 1), (6, 1), (7, 4), (11, 1), (12, 1), (13, 1), (14, 1), (15, 1), (16, 1), (17, 1), (18, 1), (19, 1), (20, 1), (21, 1), (22, 1), (23, 1), (24, 1), (25, 1)] := by kernel_rfl
theorem ze26 : zerQ Try.prog 26 = some
  (Value.agg
    {
      toList :=
        [Value.int IntKind.i64 0, Value.int IntKind.i64 0, Value.int IntKind.i64 0,
          Value.int IntKind.i64 0, Value.int IntKind.i64 0, Value.int IntKind.i64 0,
          Value.int IntKind.i64 0, Value.int IntKind.i64 0, Value.int IntKind.i64 0,
          Value.int IntKind.i64 0, Value.int IntKind.i64 0, Value.int IntKind.i64 0,
          Value.int IntKind.i64 0, Value.int IntKind.i64 0, Value.int IntKind.i64 0,
          Value.int IntKind.i64 0, Value.int IntKind.i64 0, Value.int IntKind.i64 0,
          Value.int IntKind.i64 0, Value.int IntKind.i64 0, Value.int IntKind.i64 0,
          Value.int IntKind.i64 0, Value.int IntKind.i64 0, Value.int IntKind.i64 0,
          Value.int IntKind.i64 0, Value.int IntKind.u64 0] }) := by kernel_rfl
theorem pt28 : ptrQ Try.prog 28 = true := by kernel_rfl
theorem in32 : intQ Try.prog 32 = some IntKind.u64 := by kernel_rfl
theorem iu32 : ((Try.prog).underlying 32).isSome = true := by kernel_rfl
theorem sl36 : slQ Try.prog 36 = some 2 := by kernel_rfl
theorem us36 : (Try.prog).underlying 36 = some (.slice 2) := by kernel_rfl
theorem sl37 : slQ Try.prog 37 = some 5 := by kernel_rfl
theorem sz37 : sizQ Try.prog 37 = some 1 := by kernel_rfl
theorem ag37 : aggQ Try.prog 37 = some false := by kernel_rfl
theorem us37 : (Try.prog).underlying 37 = some (.slice 5) := by kernel_rfl
theorem ze37 : zerQ Try.prog 37 = some (Value.slice none 0 0) := by kernel_rfl
theorem sl42 : slQ Try.prog 42 = some 46 := by kernel_rfl
theorem pt43 : ptrQ Try.prog 43 = true := by kernel_rfl
theorem sz46 : sizQ Try.prog 46 = some 7 := by kernel_rfl
theorem ag46 : aggQ Try.prog 46 = some true := by kernel_rfl
theorem fl46_0 : fldQ Try.prog 46 0 = some (0, 3) := by kernel_rfl
theorem fl46_1 : fldQ Try.prog 46 1 = some (1, 3) := by kernel_rfl
theorem fl46_2 : fldQ Try.prog 46 2 = some (2, 3) := by kernel_rfl
theorem fl46_3 : fldQ Try.prog 46 3 = some (3, 3) := by kernel_rfl
theorem fl46_4 : fldQ Try.prog 46 4 = some (4, 2) := by kernel_rfl
theorem fl46_5 : fldQ Try.prog 46 5 = some (5, 2) := by kernel_rfl
theorem fl46_6 : fldQ Try.prog 46 6 = some (6, 2) := by kernel_rfl
theorem ze46 : zerQ Try.prog 46 = some
  (Value.agg
    {
      toList :=
        [Value.int IntKind.i64 0, Value.int IntKind.i64 0, Value.int IntKind.i64 0,
          Value.int IntKind.i64 0, Value.int IntKind.i64 0, Value.int IntKind.i64 0,
          Value.int IntKind.i64 0] }) := by kernel_rfl
theorem sz57 : sizQ Try.prog 57 = some 1 := by kernel_rfl
theorem by57 : bytQ Try.prog 57 = some 8 := by kernel_rfl
theorem ag57 : aggQ Try.prog 57 = some false := by kernel_rfl
theorem pt57 : ptrQ Try.prog 57 = true := by kernel_rfl
theorem ze57 : zerQ Try.prog 57 = some (Value.pointer none) := by kernel_rfl
theorem sz61 : sizQ Try.prog 61 = some 7 := by kernel_rfl
theorem ag61 : aggQ Try.prog 61 = some true := by kernel_rfl
theorem fl61_0 : fldQ Try.prog 61 0 = some (0, 3) := by kernel_rfl
theorem fl61_1 : fldQ Try.prog 61 1 = some (1, 3) := by kernel_rfl
theorem fl61_2 : fldQ Try.prog 61 2 = some (2, 3) := by kernel_rfl
theorem fl61_3 : fldQ Try.prog 61 3 = some (3, 2) := by kernel_rfl
theorem fl61_4 : fldQ Try.prog 61 4 = some (4, 2) := by kernel_rfl
theorem fl61_5 : fldQ Try.prog 61 5 = some (5, 2) := by kernel_rfl
theorem fl61_6 : fldQ Try.prog 61 6 = some (6, 3) := by kernel_rfl
theorem pl61 : plQ Try.prog 61 = some [(0, 1), (1, 1), (2, 1), (3, 1), (4, 1), (5, 1), (6, 1)] := by kernel_rfl
theorem ze61 : zerQ Try.prog 61 = some
  (Value.agg
    {
      toList :=
        [Value.int IntKind.i64 0, Value.int IntKind.i64 0, Value.int IntKind.i64 0,
          Value.int IntKind.i64 0, Value.int IntKind.i64 0, Value.int IntKind.i64 0,
          Value.int IntKind.i64 0] }) := by kernel_rfl
theorem sz69 : sizQ Try.prog 69 = some 2 := by kernel_rfl
theorem ag69 : aggQ Try.prog 69 = some true := by kernel_rfl
theorem ar69 : arQ Try.prog 69 = some (2, 24) := by kernel_rfl
theorem ze69 : zerQ Try.prog 69 = some (Value.agg { toList := [Value.int IntKind.u64 0, Value.int IntKind.u64 0] }) := by kernel_rfl
theorem sz73 : sizQ Try.prog 73 = some 2 := by kernel_rfl
theorem ag73 : aggQ Try.prog 73 = some true := by kernel_rfl
theorem ar73 : arQ Try.prog 73 = some (2, 24) := by kernel_rfl
theorem ze73 : zerQ Try.prog 73 = some (Value.agg { toList := [Value.int IntKind.u64 0, Value.int IntKind.u64 0] }) := by kernel_rfl
theorem ar83 : arQ Try.prog 83 = some (20, 3) := by kernel_rfl
theorem ze83 : zerQ Try.prog 83 = some
  (Value.agg
    {
      toList :=
        [Value.int IntKind.i64 0, Value.int IntKind.i64 0, Value.int IntKind.i64 0,
          Value.int IntKind.i64 0, Value.int IntKind.i64 0, Value.int IntKind.i64 0,
          Value.int IntKind.i64 0, Value.int IntKind.i64 0, Value.int IntKind.i64 0,
          Value.int IntKind.i64 0, Value.int IntKind.i64 0, Value.int IntKind.i64 0,
          Value.int IntKind.i64 0, Value.int IntKind.i64 0, Value.int IntKind.i64 0,
          Value.int IntKind.i64 0, Value.int IntKind.i64 0, Value.int IntKind.i64 0,
          Value.int IntKind.i64 0, Value.int IntKind.i64 0] }) := by kernel_rfl
theorem sl85 : slQ Try.prog 85 = some 4 := by kernel_rfl
theorem sz85 : sizQ Try.prog 85 = some 1 := by kernel_rfl
theorem ag85 : aggQ Try.prog 85 = some false := by kernel_rfl
theorem sl86 : slQ Try.prog 86 = some 57 := by kernel_rfl
theorem sz86 : sizQ Try.prog 86 = some 1 := by kernel_rfl
theorem ag86 : aggQ Try.prog 86 = some false := by kernel_rfl
theorem us86 : (Try.prog).underlying 86 = some (.slice 57) := by kernel_rfl
theorem sl87 : slQ Try.prog 87 = some 100 := by kernel_rfl
theorem sz87 : sizQ Try.prog 87 = some 1 := by kernel_rfl
theorem ag87 : aggQ Try.prog 87 = some false := by kernel_rfl
theorem us87 : (Try.prog).underlying 87 = some (.slice 100) := by kernel_rfl
theorem sz92 : sizQ Try.prog 92 = some 1 := by kernel_rfl
theorem fl92_2 : fldQ Try.prog 92 2 = some (0, 2) := by kernel_rfl
theorem fl94_0 : fldQ Try.prog 94 0 = some (0, 26) := by kernel_rfl
theorem fl94_1 : fldQ Try.prog 94 1 = some (26, 86) := by kernel_rfl
theorem fl94_2 : fldQ Try.prog 94 2 = some (27, 85) := by kernel_rfl
theorem fl94_3 : fldQ Try.prog 94 3 = some (28, 87) := by kernel_rfl
theorem fl94_4 : fldQ Try.prog 94 4 = some (29, 92) := by kernel_rfl
theorem pl94 : plQ Try.prog 94 = some [(0, 26), (26, 1), (27, 1), (28, 1), (29, 1)] := by kernel_rfl
theorem ze94 : zerQ Try.prog 94 = some
  (Value.agg
    {
      toList :=
        [Value.int IntKind.i64 0, Value.int IntKind.i64 0, Value.int IntKind.i64 0,
          Value.int IntKind.i64 0, Value.int IntKind.i64 0, Value.int IntKind.i64 0,
          Value.int IntKind.i64 0, Value.int IntKind.i64 0, Value.int IntKind.i64 0,
          Value.int IntKind.i64 0, Value.int IntKind.i64 0, Value.int IntKind.i64 0,
          Value.int IntKind.i64 0, Value.int IntKind.i64 0, Value.int IntKind.i64 0,
          Value.int IntKind.i64 0, Value.int IntKind.i64 0, Value.int IntKind.i64 0,
          Value.int IntKind.i64 0, Value.int IntKind.i64 0, Value.int IntKind.i64 0,
          Value.int IntKind.i64 0, Value.int IntKind.i64 0, Value.int IntKind.i64 0,
          Value.int IntKind.i64 0, Value.int IntKind.u64 0, Value.slice none 0 0,
          Value.slice none 0 0, Value.slice none 0 0, Value.int IntKind.i64 0] }) := by kernel_rfl
theorem sz100 : sizQ Try.prog 100 = some 4 := by kernel_rfl
theorem by100 : bytQ Try.prog 100 = some 32 := by kernel_rfl
theorem ag100 : aggQ Try.prog 100 = some true := by kernel_rfl
theorem fl100_0 : fldQ Try.prog 100 0 = some (0, 3) := by kernel_rfl
theorem fl100_1 : fldQ Try.prog 100 1 = some (1, 3) := by kernel_rfl
theorem fl100_2 : fldQ Try.prog 100 2 = some (2, 2) := by kernel_rfl
theorem fl100_3 : fldQ Try.prog 100 3 = some (3, 2) := by kernel_rfl
theorem pl100 : plQ Try.prog 100 = some [(0, 1), (1, 1), (2, 1), (3, 1)] := by kernel_rfl
theorem ze100 : zerQ Try.prog 100 = some
  (Value.agg
    {
      toList :=
        [Value.int IntKind.i64 0, Value.int IntKind.i64 0, Value.int IntKind.i64 0,
          Value.int IntKind.i64 0] }) := by kernel_rfl
theorem sl103 : slQ Try.prog 103 = some 106 := by kernel_rfl
theorem sz103 : sizQ Try.prog 103 = some 1 := by kernel_rfl
theorem ag103 : aggQ Try.prog 103 = some false := by kernel_rfl
theorem us103 : (Try.prog).underlying 103 = some (.slice 106) := by kernel_rfl
theorem fl105_0 : fldQ Try.prog 105 0 = some (0, 26) := by kernel_rfl
theorem fl105_1 : fldQ Try.prog 105 1 = some (26, 103) := by kernel_rfl
theorem fl105_2 : fldQ Try.prog 105 2 = some (27, 85) := by kernel_rfl
theorem fl105_3 : fldQ Try.prog 105 3 = some (28, 87) := by kernel_rfl
theorem pl105 : plQ Try.prog 105 = some [(0, 26), (26, 1), (27, 1), (28, 1)] := by kernel_rfl
theorem ze105 : zerQ Try.prog 105 = some
  (Value.agg
    {
      toList :=
        [Value.int IntKind.i64 0, Value.int IntKind.i64 0, Value.int IntKind.i64 0,
          Value.int IntKind.i64 0, Value.int IntKind.i64 0, Value.int IntKind.i64 0,
          Value.int IntKind.i64 0, Value.int IntKind.i64 0, Value.int IntKind.i64 0,
          Value.int IntKind.i64 0, Value.int IntKind.i64 0, Value.int IntKind.i64 0,
          Value.int IntKind.i64 0, Value.int IntKind.i64 0, Value.int IntKind.i64 0,
          Value.int IntKind.i64 0, Value.int IntKind.i64 0, Value.int IntKind.i64 0,
          Value.int IntKind.i64 0, Value.int IntKind.i64 0, Value.int IntKind.i64 0,
          Value.int IntKind.i64 0, Value.int IntKind.i64 0, Value.int IntKind.i64 0,
          Value.int IntKind.i64 0, Value.int IntKind.u64 0, Value.slice none 0 0,
          Value.slice none 0 0, Value.slice none 0 0] }) := by kernel_rfl
theorem sz106 : sizQ Try.prog 106 = some 1 := by kernel_rfl
theorem by106 : bytQ Try.prog 106 = some 8 := by kernel_rfl
theorem ag106 : aggQ Try.prog 106 = some false := by kernel_rfl
theorem ze106 : zerQ Try.prog 106 = some (Value.pointer none) := by kernel_rfl
theorem fl109_0 : fldQ Try.prog 109 0 = some (0, 24) := by kernel_rfl
theorem fl109_1 : fldQ Try.prog 109 1 = some (1, 3) := by kernel_rfl
theorem fl109_2 : fldQ Try.prog 109 2 = some (2, 3) := by kernel_rfl
theorem fl109_3 : fldQ Try.prog 109 3 = some (3, 2) := by kernel_rfl
theorem pl109 : plQ Try.prog 109 = some [(0, 1), (1, 1), (2, 1), (3, 1)] := by kernel_rfl
theorem ze109 : zerQ Try.prog 109 = some
  (Value.agg
    {
      toList :=
        [Value.int IntKind.u64 0, Value.int IntKind.i64 0, Value.int IntKind.i64 0,
          Value.int IntKind.i64 0] }) := by kernel_rfl
theorem fl121_0 : fldQ Try.prog 121 0 = some (0, 24) := by kernel_rfl
theorem fl121_1 : fldQ Try.prog 121 1 = some (1, 3) := by kernel_rfl
theorem fl121_2 : fldQ Try.prog 121 2 = some (2, 3) := by kernel_rfl
theorem fl121_3 : fldQ Try.prog 121 3 = some (3, 92) := by kernel_rfl
theorem pl121 : plQ Try.prog 121 = some [(0, 1), (1, 1), (2, 1), (3, 1)] := by kernel_rfl
theorem ze121 : zerQ Try.prog 121 = some
  (Value.agg
    {
      toList :=
        [Value.int IntKind.u64 0, Value.int IntKind.i64 0, Value.int IntKind.i64 0,
          Value.int IntKind.i64 0] }) := by kernel_rfl
theorem pt165 : ptrQ Try.prog 165 = true := by kernel_rfl
theorem sl173 : slQ Try.prog 173 = some 176 := by kernel_rfl
theorem sz176 : sizQ Try.prog 176 = some 4 := by kernel_rfl
theorem ag176 : aggQ Try.prog 176 = some true := by kernel_rfl
theorem fl176_0 : fldQ Try.prog 176 0 = some (0, 9) := by kernel_rfl
theorem fl176_1 : fldQ Try.prog 176 1 = some (1, 2) := by kernel_rfl
theorem fl176_2 : fldQ Try.prog 176 2 = some (2, 2) := by kernel_rfl
theorem fl176_3 : fldQ Try.prog 176 3 = some (3, 2) := by kernel_rfl
theorem pl176 : plQ Try.prog 176 = some [(0, 1), (1, 1), (2, 1), (3, 1)] := by kernel_rfl
theorem ze176 : zerQ Try.prog 176 = some
  (Value.agg
    {
      toList :=
        [Value.string { data := { toList := [] } }, Value.int IntKind.i64 0,
          Value.int IntKind.i64 0, Value.int IntKind.i64 0] }) := by kernel_rfl
theorem sl180 : slQ Try.prog 180 = some 37 := by kernel_rfl
theorem sz182 : sizQ Try.prog 182 = some 4 := by kernel_rfl
theorem ag182 : aggQ Try.prog 182 = some true := by kernel_rfl
theorem ar182 : arQ Try.prog 182 = some (4, 24) := by kernel_rfl
theorem ze182 : zerQ Try.prog 182 = some
  (Value.agg
    {
      toList :=
        [Value.int IntKind.u64 0, Value.int IntKind.u64 0, Value.int IntKind.u64 0,
          Value.int IntKind.u64 0] }) := by kernel_rfl
theorem sz185 : sizQ Try.prog 185 = some 6 := by kernel_rfl
theorem fl185_0 : fldQ Try.prog 185 0 = some (0, 182) := by kernel_rfl
theorem fl185_1 : fldQ Try.prog 185 1 = some (4, 37) := by kernel_rfl
theorem fl185_2 : fldQ Try.prog 185 2 = some (5, 3) := by kernel_rfl
theorem pl185 : plQ Try.prog 185 = some [(0, 4), (4, 1), (5, 1)] := by kernel_rfl
theorem ze185 : zerQ Try.prog 185 = some
  (Value.agg
    {
      toList :=
        [Value.int IntKind.u64 0, Value.int IntKind.u64 0, Value.int IntKind.u64 0,
          Value.int IntKind.u64 0, Value.slice none 0 0, Value.int IntKind.i64 0] }) := by kernel_rfl
theorem go11 : goQ Try.prog 11 = true := by kernel_rfl
theorem go12 : goQ Try.prog 12 = true := by kernel_rfl
theorem go13 : goQ Try.prog 13 = true := by kernel_rfl
theorem go14 : goQ Try.prog 14 = true := by kernel_rfl
theorem go15 : goQ Try.prog 15 = true := by kernel_rfl
theorem go16 : goQ Try.prog 16 = true := by kernel_rfl
theorem go17 : goQ Try.prog 17 = true := by kernel_rfl
theorem go18 : goQ Try.prog 18 = true := by kernel_rfl
theorem go19 : goQ Try.prog 19 = true := by kernel_rfl
theorem go20 : goQ Try.prog 20 = true := by kernel_rfl
theorem go21 : goQ Try.prog 21 = true := by kernel_rfl
theorem go22 : goQ Try.prog 22 = true := by kernel_rfl
theorem go23 : goQ Try.prog 23 = true := by kernel_rfl
theorem go24 : goQ Try.prog 24 = true := by kernel_rfl
theorem go25 : goQ Try.prog 25 = true := by kernel_rfl
theorem go26 : goQ Try.prog 26 = true := by kernel_rfl
theorem go27 : goQ Try.prog 27 = true := by kernel_rfl
theorem go28 : goQ Try.prog 28 = true := by kernel_rfl
theorem go30 : goQ Try.prog 30 = true := by kernel_rfl
theorem go31 : goQ Try.prog 31 = true := by kernel_rfl
theorem go34 : goQ Try.prog 34 = true := by kernel_rfl
theorem go36 : goQ Try.prog 36 = true := by kernel_rfl
theorem go37 : goQ Try.prog 37 = true := by kernel_rfl
theorem go38 : goQ Try.prog 38 = true := by kernel_rfl
theorem go40 : goQ Try.prog 40 = true := by kernel_rfl
theorem go43 : goQ Try.prog 43 = true := by kernel_rfl
theorem go44 : goQ Try.prog 44 = true := by kernel_rfl
theorem go45 : goQ Try.prog 45 = true := by kernel_rfl
theorem go46 : goQ Try.prog 46 = true := by kernel_rfl
theorem go47 : goQ Try.prog 47 = true := by kernel_rfl
theorem go48 : goQ Try.prog 48 = true := by kernel_rfl
theorem go49 : goQ Try.prog 49 = true := by kernel_rfl
theorem go50 : goQ Try.prog 50 = true := by kernel_rfl
theorem go51 : goQ Try.prog 51 = true := by kernel_rfl
theorem go52 : goQ Try.prog 52 = true := by kernel_rfl
theorem go53 : goQ Try.prog 53 = true := by kernel_rfl
theorem go54 : goQ Try.prog 54 = true := by kernel_rfl
theorem go55 : goQ Try.prog 55 = true := by kernel_rfl
theorem go56 : goQ Try.prog 56 = true := by kernel_rfl
theorem go57 : goQ Try.prog 57 = true := by kernel_rfl
theorem go58 : goQ Try.prog 58 = true := by kernel_rfl
theorem go59 : goQ Try.prog 59 = true := by kernel_rfl
theorem go62 : goQ Try.prog 62 = true := by kernel_rfl
theorem go69 : goQ Try.prog 69 = true := by kernel_rfl
theorem go75 : goQ Try.prog 75 = true := by kernel_rfl
theorem go76 : goQ Try.prog 76 = true := by kernel_rfl
theorem go77 : goQ Try.prog 77 = true := by kernel_rfl
theorem go78 : goQ Try.prog 78 = true := by kernel_rfl
theorem go79 : goQ Try.prog 79 = true := by kernel_rfl
theorem go83 : goQ Try.prog 83 = true := by kernel_rfl
theorem go84 : goQ Try.prog 84 = true := by kernel_rfl
theorem go85 : goQ Try.prog 85 = true := by kernel_rfl
theorem go86 : goQ Try.prog 86 = true := by kernel_rfl
theorem go88 : goQ Try.prog 88 = true := by kernel_rfl
theorem go89 : goQ Try.prog 89 = true := by kernel_rfl
theorem go90 : goQ Try.prog 90 = true := by kernel_rfl
theorem go91 : goQ Try.prog 91 = true := by kernel_rfl
theorem go92 : goQ Try.prog 92 = true := by kernel_rfl
theorem go93 : goQ Try.prog 93 = true := by kernel_rfl
theorem go94 : goQ Try.prog 94 = true := by kernel_rfl
theorem go95 : goQ Try.prog 95 = true := by kernel_rfl
theorem go101 : goQ Try.prog 101 = true := by kernel_rfl
theorem go102 : goQ Try.prog 102 = true := by kernel_rfl
theorem go103 : goQ Try.prog 103 = true := by kernel_rfl
theorem go104 : goQ Try.prog 104 = true := by kernel_rfl
theorem go106 : goQ Try.prog 106 = true := by kernel_rfl
theorem go108 : goQ Try.prog 108 = true := by kernel_rfl
theorem go110 : goQ Try.prog 110 = true := by kernel_rfl
theorem go111 : goQ Try.prog 111 = true := by kernel_rfl
theorem go112 : goQ Try.prog 112 = true := by kernel_rfl
theorem go113 : goQ Try.prog 113 = true := by kernel_rfl
theorem go114 : goQ Try.prog 114 = true := by kernel_rfl
theorem go115 : goQ Try.prog 115 = true := by kernel_rfl
theorem go116 : goQ Try.prog 116 = true := by kernel_rfl
theorem go117 : goQ Try.prog 117 = true := by kernel_rfl
theorem go118 : goQ Try.prog 118 = true := by kernel_rfl
theorem go119 : goQ Try.prog 119 = true := by kernel_rfl
theorem go120 : goQ Try.prog 120 = true := by kernel_rfl
theorem go121 : goQ Try.prog 121 = true := by kernel_rfl
theorem go122 : goQ Try.prog 122 = true := by kernel_rfl
theorem go123 : goQ Try.prog 123 = true := by kernel_rfl
theorem mixed : (Try.prog).follows .mixedOrders = true := by kernel_rfl
end Go.Proofs.Ytphoapajlcaoeaa
