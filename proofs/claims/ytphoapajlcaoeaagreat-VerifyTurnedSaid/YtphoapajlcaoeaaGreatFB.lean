/- Facts on the types and functions of the seat. -/
import Derived.Test.YtphoapajlcaoeaaGreatProg
import Derived.Test.YtphoapajlcaoeaaGreatG1
set_option linter.unusedVariables false
namespace Go.Proofs.YtphoapajlcaoeaaGreat
open Go Go.X
theorem sz2 : sizQ Tryz.prog 2 = some 1 := by kernel_rfl
theorem by2 : bytQ Tryz.prog 2 = some 8 := by kernel_rfl
theorem ag2 : aggQ Tryz.prog 2 = some false := by kernel_rfl
theorem in2 : intQ Tryz.prog 2 = some IntKind.i64 := by kernel_rfl
theorem iu2 : ((Tryz.prog).underlying 2).isSome = true := by kernel_rfl
theorem ze2 : zerQ Tryz.prog 2 = some (Value.int IntKind.i64 0) := by kernel_rfl
theorem sz3 : sizQ Tryz.prog 3 = some 1 := by kernel_rfl
theorem by3 : bytQ Tryz.prog 3 = some 8 := by kernel_rfl
theorem ag3 : aggQ Tryz.prog 3 = some false := by kernel_rfl
theorem in3 : intQ Tryz.prog 3 = some IntKind.i64 := by kernel_rfl
theorem ui3 : (Tryz.prog).underlying 3 = some (.int IntKind.i64) := by kernel_rfl
theorem iu3 : ((Tryz.prog).underlying 3).isSome = true := by kernel_rfl
theorem ze3 : zerQ Tryz.prog 3 = some (Value.int IntKind.i64 0) := by kernel_rfl
theorem sz5 : sizQ Tryz.prog 5 = some 1 := by kernel_rfl
theorem by5 : bytQ Tryz.prog 5 = some 1 := by kernel_rfl
theorem ag5 : aggQ Tryz.prog 5 = some false := by kernel_rfl
theorem in5 : intQ Tryz.prog 5 = some IntKind.u8 := by kernel_rfl
theorem ui5 : (Tryz.prog).underlying 5 = some (.int IntKind.u8) := by kernel_rfl
theorem iu5 : ((Tryz.prog).underlying 5).isSome = true := by kernel_rfl
theorem ze5 : zerQ Tryz.prog 5 = some (Value.int IntKind.u8 0) := by kernel_rfl
theorem sz9 : sizQ Tryz.prog 9 = some 1 := by kernel_rfl
theorem ag9 : aggQ Tryz.prog 9 = some false := by kernel_rfl
theorem un9 : (Tryz.prog).underlying 9 = some .string := by kernel_rfl
theorem sl22 : slQ Tryz.prog 22 = some 3 := by kernel_rfl
theorem sz22 : sizQ Tryz.prog 22 = some 1 := by kernel_rfl
theorem ag22 : aggQ Tryz.prog 22 = some false := by kernel_rfl
theorem sz23 : sizQ Tryz.prog 23 = some 4 := by kernel_rfl
theorem ag23 : aggQ Tryz.prog 23 = some true := by kernel_rfl
theorem ar23 : arQ Tryz.prog 23 = some (4, 2) := by kernel_rfl
theorem ze23 : zerQ Tryz.prog 23 = some
  (Value.agg
    {
      toList :=
        [Value.int IntKind.i64 0, Value.int IntKind.i64 0, Value.int IntKind.i64 0,
          Value.int IntKind.i64 0] }) := by kernel_rfl
theorem sz24 : sizQ Tryz.prog 24 = some 1 := by kernel_rfl
theorem ag24 : aggQ Tryz.prog 24 = some false := by kernel_rfl
theorem in24 : intQ Tryz.prog 24 = some IntKind.u64 := by kernel_rfl
theorem iu24 : ((Tryz.prog).underlying 24).isSome = true := by kernel_rfl
theorem sz26 : sizQ Tryz.prog 26 = some 26 := by kernel_rfl
theorem ag26 : aggQ Tryz.prog 26 = some true := by kernel_rfl
theorem fl26_0 : fldQ Tryz.prog 26 0 = some (0, 3) := by kernel_rfl
theorem fl26_1 : fldQ Tryz.prog 26 1 = some (1, 3) := by kernel_rfl
theorem fl26_2 : fldQ Tryz.prog 26 2 = some (2, 3) := by kernel_rfl
theorem fl26_3 : fldQ Tryz.prog 26 3 = some (3, 3) := by kernel_rfl
theorem fl26_4 : fldQ Tryz.prog 26 4 = some (4, 3) := by kernel_rfl
theorem fl26_5 : fldQ Tryz.prog 26 5 = some (5, 3) := by kernel_rfl
theorem fl26_6 : fldQ Tryz.prog 26 6 = some (6, 3) := by kernel_rfl
theorem fl26_7 : fldQ Tryz.prog 26 7 = some (7, 23) := by kernel_rfl
theorem fl26_8 : fldQ Tryz.prog 26 8 = some (11, 3) := by kernel_rfl
theorem fl26_9 : fldQ Tryz.prog 26 9 = some (12, 3) := by kernel_rfl
theorem fl26_10 : fldQ Tryz.prog 26 10 = some (13, 3) := by kernel_rfl
theorem fl26_11 : fldQ Tryz.prog 26 11 = some (14, 3) := by kernel_rfl
theorem fl26_12 : fldQ Tryz.prog 26 12 = some (15, 3) := by kernel_rfl
theorem fl26_13 : fldQ Tryz.prog 26 13 = some (16, 3) := by kernel_rfl
theorem fl26_14 : fldQ Tryz.prog 26 14 = some (17, 3) := by kernel_rfl
theorem fl26_15 : fldQ Tryz.prog 26 15 = some (18, 3) := by kernel_rfl
theorem fl26_16 : fldQ Tryz.prog 26 16 = some (19, 3) := by kernel_rfl
theorem fl26_17 : fldQ Tryz.prog 26 17 = some (20, 3) := by kernel_rfl
theorem fl26_18 : fldQ Tryz.prog 26 18 = some (21, 2) := by kernel_rfl
theorem fl26_19 : fldQ Tryz.prog 26 19 = some (22, 3) := by kernel_rfl
theorem fl26_20 : fldQ Tryz.prog 26 20 = some (23, 3) := by kernel_rfl
theorem fl26_21 : fldQ Tryz.prog 26 21 = some (24, 3) := by kernel_rfl
theorem fl26_22 : fldQ Tryz.prog 26 22 = some (25, 24) := by kernel_rfl
theorem pl26 : plQ Tryz.prog 26 = some [(0, 1), (1, 1), (2, 1), (3, 1), (4, 1), (5, 1), (6, 1), (7, 4), (11, 1), (12, 1), (13, 1), (14, 1), (15, 1), (16, 1), (17, 1), (18, 1), (19, 1), (20, 1), (21, 1), (22, 1), (23, 1), (24, 1), (25, 1)] := by kernel_rfl
theorem ze26 : zerQ Tryz.prog 26 = some
  (Value.agg
    {
      toList :=
        [Value.int IntKind.i64 0, Value.int IntKind.i64 0, Value.int IntKind.i64 0,
          Value.int IntKind.i64 0, Value.int IntKind.i64 0, Value.int IntKind.i64 0,
          Value.int IntKind.i64 0, Value.int IntKind.i64 0, Value.int IntKind.i64 0,
          Value.int IntKind.i64 0, Value.int IntKind.i64 0, Value.int IntKind.i64 0,
          Value.int IntKind.i64 0, Value.int IntKind.i64 0, Value.int IntKind.i64 0,
          Value.int IntKind.i64 0, Value.int IntKind.i64 0, Value.int IntKind.i64 0,
          Value.int IntKind.i64 0, Value.int IntKind.i64 0, Value.int IntKind.i64 0,
          Value.int IntKind.i64 0, Value.int IntKind.i64 0, Value.int IntKind.i64 0,
          Value.int IntKind.i64 0, Value.int IntKind.u64 0] }) := by kernel_rfl
theorem pt28 : ptrQ Tryz.prog 28 = true := by kernel_rfl
theorem pt30 : ptrQ Tryz.prog 30 = true := by kernel_rfl
theorem pt32 : ptrQ Tryz.prog 32 = true := by kernel_rfl
theorem sl34 : slQ Tryz.prog 34 = some 5 := by kernel_rfl
theorem sz34 : sizQ Tryz.prog 34 = some 1 := by kernel_rfl
theorem ag34 : aggQ Tryz.prog 34 = some false := by kernel_rfl
theorem us34 : (Tryz.prog).underlying 34 = some (.slice 5) := by kernel_rfl
theorem ze34 : zerQ Tryz.prog 34 = some (Value.slice none 0 0) := by kernel_rfl
theorem in37 : intQ Tryz.prog 37 = some IntKind.u64 := by kernel_rfl
theorem iu37 : ((Tryz.prog).underlying 37).isSome = true := by kernel_rfl
theorem sz39 : sizQ Tryz.prog 39 = some 7 := by kernel_rfl
theorem ag39 : aggQ Tryz.prog 39 = some true := by kernel_rfl
theorem fl39_0 : fldQ Tryz.prog 39 0 = some (0, 3) := by kernel_rfl
theorem fl39_1 : fldQ Tryz.prog 39 1 = some (1, 3) := by kernel_rfl
theorem fl39_2 : fldQ Tryz.prog 39 2 = some (2, 3) := by kernel_rfl
theorem fl39_3 : fldQ Tryz.prog 39 3 = some (3, 2) := by kernel_rfl
theorem fl39_4 : fldQ Tryz.prog 39 4 = some (4, 2) := by kernel_rfl
theorem fl39_5 : fldQ Tryz.prog 39 5 = some (5, 2) := by kernel_rfl
theorem fl39_6 : fldQ Tryz.prog 39 6 = some (6, 3) := by kernel_rfl
theorem pl39 : plQ Tryz.prog 39 = some [(0, 1), (1, 1), (2, 1), (3, 1), (4, 1), (5, 1), (6, 1)] := by kernel_rfl
theorem ze39 : zerQ Tryz.prog 39 = some
  (Value.agg
    {
      toList :=
        [Value.int IntKind.i64 0, Value.int IntKind.i64 0, Value.int IntKind.i64 0,
          Value.int IntKind.i64 0, Value.int IntKind.i64 0, Value.int IntKind.i64 0,
          Value.int IntKind.i64 0] }) := by kernel_rfl
theorem sz57 : sizQ Tryz.prog 57 = some 2 := by kernel_rfl
theorem ag57 : aggQ Tryz.prog 57 = some true := by kernel_rfl
theorem ar57 : arQ Tryz.prog 57 = some (2, 24) := by kernel_rfl
theorem ze57 : zerQ Tryz.prog 57 = some (Value.agg { toList := [Value.int IntKind.u64 0, Value.int IntKind.u64 0] }) := by kernel_rfl
theorem sz60 : sizQ Tryz.prog 60 = some 1 := by kernel_rfl
theorem ag60 : aggQ Tryz.prog 60 = some false := by kernel_rfl
theorem pt60 : ptrQ Tryz.prog 60 = true := by kernel_rfl
theorem sz62 : sizQ Tryz.prog 62 = some 1 := by kernel_rfl
theorem by62 : bytQ Tryz.prog 62 = some 8 := by kernel_rfl
theorem ag62 : aggQ Tryz.prog 62 = some false := by kernel_rfl
theorem pt62 : ptrQ Tryz.prog 62 = true := by kernel_rfl
theorem ze62 : zerQ Tryz.prog 62 = some (Value.pointer none) := by kernel_rfl
theorem sl65 : slQ Tryz.prog 65 = some 2 := by kernel_rfl
theorem sz65 : sizQ Tryz.prog 65 = some 1 := by kernel_rfl
theorem ag65 : aggQ Tryz.prog 65 = some false := by kernel_rfl
theorem fl67_0 : fldQ Tryz.prog 67 0 = some (0, 24) := by kernel_rfl
theorem fl67_1 : fldQ Tryz.prog 67 1 = some (1, 3) := by kernel_rfl
theorem fl67_2 : fldQ Tryz.prog 67 2 = some (2, 22) := by kernel_rfl
theorem fl67_3 : fldQ Tryz.prog 67 3 = some (3, 65) := by kernel_rfl
theorem pl67 : plQ Tryz.prog 67 = some [(0, 1), (1, 1), (2, 1), (3, 1)] := by kernel_rfl
theorem ze67 : zerQ Tryz.prog 67 = some
  (Value.agg
    {
      toList :=
        [Value.int IntKind.u64 0, Value.int IntKind.i64 0, Value.slice none 0 0,
          Value.slice none 0 0] }) := by kernel_rfl
theorem sz68 : sizQ Tryz.prog 68 = some 1 := by kernel_rfl
theorem ag68 : aggQ Tryz.prog 68 = some false := by kernel_rfl
theorem sl69 : slQ Tryz.prog 69 = some 76 := by kernel_rfl
theorem sz69 : sizQ Tryz.prog 69 = some 1 := by kernel_rfl
theorem ag69 : aggQ Tryz.prog 69 = some false := by kernel_rfl
theorem us69 : (Tryz.prog).underlying 69 = some (.slice 76) := by kernel_rfl
theorem fl71_0 : fldQ Tryz.prog 71 0 = some (0, 26) := by kernel_rfl
theorem fl71_1 : fldQ Tryz.prog 71 1 = some (26, 68) := by kernel_rfl
theorem fl71_2 : fldQ Tryz.prog 71 2 = some (27, 69) := by kernel_rfl
theorem fl71_3 : fldQ Tryz.prog 71 3 = some (28, 69) := by kernel_rfl
theorem pl71 : plQ Tryz.prog 71 = some [(0, 26), (26, 1), (27, 1), (28, 1)] := by kernel_rfl
theorem ze71 : zerQ Tryz.prog 71 = some
  (Value.agg
    {
      toList :=
        [Value.int IntKind.i64 0, Value.int IntKind.i64 0, Value.int IntKind.i64 0,
          Value.int IntKind.i64 0, Value.int IntKind.i64 0, Value.int IntKind.i64 0,
          Value.int IntKind.i64 0, Value.int IntKind.i64 0, Value.int IntKind.i64 0,
          Value.int IntKind.i64 0, Value.int IntKind.i64 0, Value.int IntKind.i64 0,
          Value.int IntKind.i64 0, Value.int IntKind.i64 0, Value.int IntKind.i64 0,
          Value.int IntKind.i64 0, Value.int IntKind.i64 0, Value.int IntKind.i64 0,
          Value.int IntKind.i64 0, Value.int IntKind.i64 0, Value.int IntKind.i64 0,
          Value.int IntKind.i64 0, Value.int IntKind.i64 0, Value.int IntKind.i64 0,
          Value.int IntKind.i64 0, Value.int IntKind.u64 0, Value.pointer none,
          Value.slice none 0 0, Value.slice none 0 0] }) := by kernel_rfl
theorem fl75_0 : fldQ Tryz.prog 75 0 = some (0, 3) := by kernel_rfl
theorem fl75_1 : fldQ Tryz.prog 75 1 = some (1, 2) := by kernel_rfl
theorem fl75_2 : fldQ Tryz.prog 75 2 = some (2, 65) := by kernel_rfl
theorem pl75 : plQ Tryz.prog 75 = some [(0, 1), (1, 1), (2, 1)] := by kernel_rfl
theorem ze75 : zerQ Tryz.prog 75 = some
  (Value.agg
    { toList := [Value.int IntKind.i64 0, Value.int IntKind.i64 0, Value.slice none 0 0] }) := by kernel_rfl
theorem sz76 : sizQ Tryz.prog 76 = some 1 := by kernel_rfl
theorem by76 : bytQ Tryz.prog 76 = some 8 := by kernel_rfl
theorem ag76 : aggQ Tryz.prog 76 = some false := by kernel_rfl
theorem ze76 : zerQ Tryz.prog 76 = some (Value.pointer none) := by kernel_rfl
theorem ar80 : arQ Tryz.prog 80 = some (20, 3) := by kernel_rfl
theorem ze80 : zerQ Tryz.prog 80 = some
  (Value.agg
    {
      toList :=
        [Value.int IntKind.i64 0, Value.int IntKind.i64 0, Value.int IntKind.i64 0,
          Value.int IntKind.i64 0, Value.int IntKind.i64 0, Value.int IntKind.i64 0,
          Value.int IntKind.i64 0, Value.int IntKind.i64 0, Value.int IntKind.i64 0,
          Value.int IntKind.i64 0, Value.int IntKind.i64 0, Value.int IntKind.i64 0,
          Value.int IntKind.i64 0, Value.int IntKind.i64 0, Value.int IntKind.i64 0,
          Value.int IntKind.i64 0, Value.int IntKind.i64 0, Value.int IntKind.i64 0,
          Value.int IntKind.i64 0, Value.int IntKind.i64 0] }) := by kernel_rfl
theorem sl83 : slQ Tryz.prog 83 = some 62 := by kernel_rfl
theorem sz83 : sizQ Tryz.prog 83 = some 1 := by kernel_rfl
theorem ag83 : aggQ Tryz.prog 83 = some false := by kernel_rfl
theorem us83 : (Tryz.prog).underlying 83 = some (.slice 62) := by kernel_rfl
theorem sz88 : sizQ Tryz.prog 88 = some 1 := by kernel_rfl
theorem fl88_2 : fldQ Tryz.prog 88 2 = some (0, 2) := by kernel_rfl
theorem fl90_0 : fldQ Tryz.prog 90 0 = some (0, 26) := by kernel_rfl
theorem fl90_1 : fldQ Tryz.prog 90 1 = some (26, 60) := by kernel_rfl
theorem fl90_2 : fldQ Tryz.prog 90 2 = some (27, 83) := by kernel_rfl
theorem fl90_3 : fldQ Tryz.prog 90 3 = some (28, 83) := by kernel_rfl
theorem fl90_4 : fldQ Tryz.prog 90 4 = some (29, 88) := by kernel_rfl
theorem pl90 : plQ Tryz.prog 90 = some [(0, 26), (26, 1), (27, 1), (28, 1), (29, 1)] := by kernel_rfl
theorem ze90 : zerQ Tryz.prog 90 = some
  (Value.agg
    {
      toList :=
        [Value.int IntKind.i64 0, Value.int IntKind.i64 0, Value.int IntKind.i64 0,
          Value.int IntKind.i64 0, Value.int IntKind.i64 0, Value.int IntKind.i64 0,
          Value.int IntKind.i64 0, Value.int IntKind.i64 0, Value.int IntKind.i64 0,
          Value.int IntKind.i64 0, Value.int IntKind.i64 0, Value.int IntKind.i64 0,
          Value.int IntKind.i64 0, Value.int IntKind.i64 0, Value.int IntKind.i64 0,
          Value.int IntKind.i64 0, Value.int IntKind.i64 0, Value.int IntKind.i64 0,
          Value.int IntKind.i64 0, Value.int IntKind.i64 0, Value.int IntKind.i64 0,
          Value.int IntKind.i64 0, Value.int IntKind.i64 0, Value.int IntKind.i64 0,
          Value.int IntKind.i64 0, Value.int IntKind.u64 0, Value.pointer none,
          Value.slice none 0 0, Value.slice none 0 0, Value.int IntKind.i64 0] }) := by kernel_rfl
theorem fl94_0 : fldQ Tryz.prog 94 0 = some (0, 24) := by kernel_rfl
theorem fl94_1 : fldQ Tryz.prog 94 1 = some (1, 3) := by kernel_rfl
theorem fl94_2 : fldQ Tryz.prog 94 2 = some (2, 3) := by kernel_rfl
theorem fl94_3 : fldQ Tryz.prog 94 3 = some (3, 88) := by kernel_rfl
theorem pl94 : plQ Tryz.prog 94 = some [(0, 1), (1, 1), (2, 1), (3, 1)] := by kernel_rfl
theorem ze94 : zerQ Tryz.prog 94 = some
  (Value.agg
    {
      toList :=
        [Value.int IntKind.u64 0, Value.int IntKind.i64 0, Value.int IntKind.i64 0,
          Value.int IntKind.i64 0] }) := by kernel_rfl
theorem sz98 : sizQ Tryz.prog 98 = some 2 := by kernel_rfl
theorem ag98 : aggQ Tryz.prog 98 = some true := by kernel_rfl
theorem ar98 : arQ Tryz.prog 98 = some (2, 24) := by kernel_rfl
theorem ze98 : zerQ Tryz.prog 98 = some (Value.agg { toList := [Value.int IntKind.u64 0, Value.int IntKind.u64 0] }) := by kernel_rfl
theorem sl103 : slQ Tryz.prog 103 = some 4 := by kernel_rfl
theorem fl112_0 : fldQ Tryz.prog 112 0 = some (0, 24) := by kernel_rfl
theorem fl112_1 : fldQ Tryz.prog 112 1 = some (1, 3) := by kernel_rfl
theorem fl112_2 : fldQ Tryz.prog 112 2 = some (2, 3) := by kernel_rfl
theorem fl112_3 : fldQ Tryz.prog 112 3 = some (3, 2) := by kernel_rfl
theorem pl112 : plQ Tryz.prog 112 = some [(0, 1), (1, 1), (2, 1), (3, 1)] := by kernel_rfl
theorem ze112 : zerQ Tryz.prog 112 = some
  (Value.agg
    {
      toList :=
        [Value.int IntKind.u64 0, Value.int IntKind.i64 0, Value.int IntKind.i64 0,
          Value.int IntKind.i64 0] }) := by kernel_rfl
theorem sz127 : sizQ Tryz.prog 127 = some 2 := by kernel_rfl
theorem by127 : bytQ Tryz.prog 127 = some 16 := by kernel_rfl
theorem fl127_0 : fldQ Tryz.prog 127 0 = some (0, 3) := by kernel_rfl
theorem fl127_1 : fldQ Tryz.prog 127 1 = some (1, 2) := by kernel_rfl
theorem pl127 : plQ Tryz.prog 127 = some [(0, 1), (1, 1)] := by kernel_rfl
theorem ze127 : zerQ Tryz.prog 127 = some (Value.agg { toList := [Value.int IntKind.i64 0, Value.int IntKind.i64 0] }) := by kernel_rfl
theorem fl129_0 : fldQ Tryz.prog 129 0 = some (0, 3) := by kernel_rfl
theorem fl129_1 : fldQ Tryz.prog 129 1 = some (1, 2) := by kernel_rfl
theorem fl129_2 : fldQ Tryz.prog 129 2 = some (2, 24) := by kernel_rfl
theorem fl129_3 : fldQ Tryz.prog 129 3 = some (3, 88) := by kernel_rfl
theorem pl129 : plQ Tryz.prog 129 = some [(0, 1), (1, 1), (2, 1), (3, 1)] := by kernel_rfl
theorem ze129 : zerQ Tryz.prog 129 = some
  (Value.agg
    {
      toList :=
        [Value.int IntKind.i64 0, Value.int IntKind.i64 0, Value.int IntKind.u64 0,
          Value.int IntKind.i64 0] }) := by kernel_rfl
theorem sl131 : slQ Tryz.prog 131 = some 127 := by kernel_rfl
theorem sz131 : sizQ Tryz.prog 131 = some 1 := by kernel_rfl
theorem ag131 : aggQ Tryz.prog 131 = some false := by kernel_rfl
theorem fl133_0 : fldQ Tryz.prog 133 0 = some (0, 24) := by kernel_rfl
theorem fl133_1 : fldQ Tryz.prog 133 1 = some (1, 131) := by kernel_rfl
theorem fl133_2 : fldQ Tryz.prog 133 2 = some (2, 3) := by kernel_rfl
theorem fl133_3 : fldQ Tryz.prog 133 3 = some (3, 88) := by kernel_rfl
theorem pl133 : plQ Tryz.prog 133 = some [(0, 1), (1, 1), (2, 1), (3, 1)] := by kernel_rfl
theorem ze133 : zerQ Tryz.prog 133 = some
  (Value.agg
    {
      toList :=
        [Value.int IntKind.u64 0, Value.slice none 0 0, Value.int IntKind.i64 0,
          Value.int IntKind.i64 0] }) := by kernel_rfl
theorem sl154 : slQ Tryz.prog 154 = some 157 := by kernel_rfl
theorem sz157 : sizQ Tryz.prog 157 = some 4 := by kernel_rfl
theorem ag157 : aggQ Tryz.prog 157 = some true := by kernel_rfl
theorem fl157_0 : fldQ Tryz.prog 157 0 = some (0, 9) := by kernel_rfl
theorem fl157_1 : fldQ Tryz.prog 157 1 = some (1, 2) := by kernel_rfl
theorem fl157_2 : fldQ Tryz.prog 157 2 = some (2, 2) := by kernel_rfl
theorem fl157_3 : fldQ Tryz.prog 157 3 = some (3, 2) := by kernel_rfl
theorem pl157 : plQ Tryz.prog 157 = some [(0, 1), (1, 1), (2, 1), (3, 1)] := by kernel_rfl
theorem ze157 : zerQ Tryz.prog 157 = some
  (Value.agg
    {
      toList :=
        [Value.string { data := { toList := [] } }, Value.int IntKind.i64 0,
          Value.int IntKind.i64 0, Value.int IntKind.i64 0] }) := by kernel_rfl
theorem in161 : intQ Tryz.prog 161 = some IntKind.u32 := by kernel_rfl
theorem iu161 : ((Tryz.prog).underlying 161).isSome = true := by kernel_rfl
theorem sz164 : sizQ Tryz.prog 164 = some 4 := by kernel_rfl
theorem ag164 : aggQ Tryz.prog 164 = some true := by kernel_rfl
theorem ar164 : arQ Tryz.prog 164 = some (4, 24) := by kernel_rfl
theorem ze164 : zerQ Tryz.prog 164 = some
  (Value.agg
    {
      toList :=
        [Value.int IntKind.u64 0, Value.int IntKind.u64 0, Value.int IntKind.u64 0,
          Value.int IntKind.u64 0] }) := by kernel_rfl
theorem pt171 : ptrQ Tryz.prog 171 = true := by kernel_rfl
theorem sl175 : slQ Tryz.prog 175 = some 34 := by kernel_rfl
theorem sz179 : sizQ Tryz.prog 179 = some 6 := by kernel_rfl
theorem fl179_0 : fldQ Tryz.prog 179 0 = some (0, 164) := by kernel_rfl
theorem fl179_1 : fldQ Tryz.prog 179 1 = some (4, 34) := by kernel_rfl
theorem fl179_2 : fldQ Tryz.prog 179 2 = some (5, 3) := by kernel_rfl
theorem pl179 : plQ Tryz.prog 179 = some [(0, 4), (4, 1), (5, 1)] := by kernel_rfl
theorem ze179 : zerQ Tryz.prog 179 = some
  (Value.agg
    {
      toList :=
        [Value.int IntKind.u64 0, Value.int IntKind.u64 0, Value.int IntKind.u64 0,
          Value.int IntKind.u64 0, Value.slice none 0 0, Value.int IntKind.i64 0] }) := by kernel_rfl
theorem go5 : goQ Tryz.prog 5 = true := by kernel_rfl
theorem go6 : goQ Tryz.prog 6 = true := by kernel_rfl
theorem go7 : goQ Tryz.prog 7 = true := by kernel_rfl
theorem go8 : goQ Tryz.prog 8 = true := by kernel_rfl
theorem go9 : goQ Tryz.prog 9 = true := by kernel_rfl
theorem go10 : goQ Tryz.prog 10 = true := by kernel_rfl
theorem go11 : goQ Tryz.prog 11 = true := by kernel_rfl
theorem go12 : goQ Tryz.prog 12 = true := by kernel_rfl
theorem go16 : goQ Tryz.prog 16 = true := by kernel_rfl
theorem go17 : goQ Tryz.prog 17 = true := by kernel_rfl
theorem go18 : goQ Tryz.prog 18 = true := by kernel_rfl
theorem go20 : goQ Tryz.prog 20 = true := by kernel_rfl
theorem go21 : goQ Tryz.prog 21 = true := by kernel_rfl
theorem go22 : goQ Tryz.prog 22 = true := by kernel_rfl
theorem go23 : goQ Tryz.prog 23 = true := by kernel_rfl
theorem go25 : goQ Tryz.prog 25 = true := by kernel_rfl
theorem go28 : goQ Tryz.prog 28 = true := by kernel_rfl
theorem go29 : goQ Tryz.prog 29 = true := by kernel_rfl
theorem go30 : goQ Tryz.prog 30 = true := by kernel_rfl
theorem go31 : goQ Tryz.prog 31 = true := by kernel_rfl
theorem go32 : goQ Tryz.prog 32 = true := by kernel_rfl
theorem go33 : goQ Tryz.prog 33 = true := by kernel_rfl
theorem go34 : goQ Tryz.prog 34 = true := by kernel_rfl
theorem go35 : goQ Tryz.prog 35 = true := by kernel_rfl
theorem go36 : goQ Tryz.prog 36 = true := by kernel_rfl
theorem go37 : goQ Tryz.prog 37 = true := by kernel_rfl
theorem go38 : goQ Tryz.prog 38 = true := by kernel_rfl
theorem go39 : goQ Tryz.prog 39 = true := by kernel_rfl
theorem go40 : goQ Tryz.prog 40 = true := by kernel_rfl
theorem go41 : goQ Tryz.prog 41 = true := by kernel_rfl
theorem go42 : goQ Tryz.prog 42 = true := by kernel_rfl
theorem go43 : goQ Tryz.prog 43 = true := by kernel_rfl
theorem go44 : goQ Tryz.prog 44 = true := by kernel_rfl
theorem go45 : goQ Tryz.prog 45 = true := by kernel_rfl
theorem go46 : goQ Tryz.prog 46 = true := by kernel_rfl
theorem go47 : goQ Tryz.prog 47 = true := by kernel_rfl
theorem go48 : goQ Tryz.prog 48 = true := by kernel_rfl
theorem go49 : goQ Tryz.prog 49 = true := by kernel_rfl
theorem go50 : goQ Tryz.prog 50 = true := by kernel_rfl
theorem go51 : goQ Tryz.prog 51 = true := by kernel_rfl
theorem go52 : goQ Tryz.prog 52 = true := by kernel_rfl
theorem go53 : goQ Tryz.prog 53 = true := by kernel_rfl
theorem go54 : goQ Tryz.prog 54 = true := by kernel_rfl
theorem go55 : goQ Tryz.prog 55 = true := by kernel_rfl
theorem go56 : goQ Tryz.prog 56 = true := by kernel_rfl
theorem go57 : goQ Tryz.prog 57 = true := by kernel_rfl
theorem go58 : goQ Tryz.prog 58 = true := by kernel_rfl
theorem go61 : goQ Tryz.prog 61 = true := by kernel_rfl
theorem go62 : goQ Tryz.prog 62 = true := by kernel_rfl
theorem go63 : goQ Tryz.prog 63 = true := by kernel_rfl
theorem go64 : goQ Tryz.prog 64 = true := by kernel_rfl
theorem go65 : goQ Tryz.prog 65 = true := by kernel_rfl
theorem go66 : goQ Tryz.prog 66 = true := by kernel_rfl
theorem go67 : goQ Tryz.prog 67 = true := by kernel_rfl
theorem go68 : goQ Tryz.prog 68 = true := by kernel_rfl
theorem go69 : goQ Tryz.prog 69 = true := by kernel_rfl
theorem go70 : goQ Tryz.prog 70 = true := by kernel_rfl
theorem go71 : goQ Tryz.prog 71 = true := by kernel_rfl
theorem go72 : goQ Tryz.prog 72 = true := by kernel_rfl
theorem go74 : goQ Tryz.prog 74 = true := by kernel_rfl
theorem go75 : goQ Tryz.prog 75 = true := by kernel_rfl
theorem go76 : goQ Tryz.prog 76 = true := by kernel_rfl
theorem go77 : goQ Tryz.prog 77 = true := by kernel_rfl
theorem go78 : goQ Tryz.prog 78 = true := by kernel_rfl
theorem go79 : goQ Tryz.prog 79 = true := by kernel_rfl
theorem go80 : goQ Tryz.prog 80 = true := by kernel_rfl
theorem go81 : goQ Tryz.prog 81 = true := by kernel_rfl
theorem go82 : goQ Tryz.prog 82 = true := by kernel_rfl
theorem go83 : goQ Tryz.prog 83 = true := by kernel_rfl
theorem go84 : goQ Tryz.prog 84 = true := by kernel_rfl
theorem go85 : goQ Tryz.prog 85 = true := by kernel_rfl
theorem go86 : goQ Tryz.prog 86 = true := by kernel_rfl
theorem go87 : goQ Tryz.prog 87 = true := by kernel_rfl
theorem go89 : goQ Tryz.prog 89 = true := by kernel_rfl
theorem go90 : goQ Tryz.prog 90 = true := by kernel_rfl
theorem go91 : goQ Tryz.prog 91 = true := by kernel_rfl
theorem go92 : goQ Tryz.prog 92 = true := by kernel_rfl
theorem go93 : goQ Tryz.prog 93 = true := by kernel_rfl
theorem go94 : goQ Tryz.prog 94 = true := by kernel_rfl
theorem go95 : goQ Tryz.prog 95 = true := by kernel_rfl
theorem go96 : goQ Tryz.prog 96 = true := by kernel_rfl
theorem go97 : goQ Tryz.prog 97 = true := by kernel_rfl
theorem go99 : goQ Tryz.prog 99 = true := by kernel_rfl
theorem go100 : goQ Tryz.prog 100 = true := by kernel_rfl
theorem go101 : goQ Tryz.prog 101 = true := by kernel_rfl
theorem go102 : goQ Tryz.prog 102 = true := by kernel_rfl
theorem go103 : goQ Tryz.prog 103 = true := by kernel_rfl
theorem go104 : goQ Tryz.prog 104 = true := by kernel_rfl
theorem go105 : goQ Tryz.prog 105 = true := by kernel_rfl
theorem go106 : goQ Tryz.prog 106 = true := by kernel_rfl
theorem go107 : goQ Tryz.prog 107 = true := by kernel_rfl
theorem go108 : goQ Tryz.prog 108 = true := by kernel_rfl
theorem go109 : goQ Tryz.prog 109 = true := by kernel_rfl
theorem go110 : goQ Tryz.prog 110 = true := by kernel_rfl
theorem go111 : goQ Tryz.prog 111 = true := by kernel_rfl
theorem go112 : goQ Tryz.prog 112 = true := by kernel_rfl
theorem mixed : (Tryz.prog).follows .mixedOrders = true := by kernel_rfl
end Go.Proofs.YtphoapajlcaoeaaGreat
