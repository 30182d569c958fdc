/- Facts on the types and functions of the seat. -/
import Derived.Test.YtphoapajlcaoeaaProg
import Derived.Test.YtphoapajlcaoeaaG1
set_option linter.unusedVariables false
namespace Go.Proofs.Ytphoapajlcaoeaa
open Go Go.X
theorem sz0 : sizQ Try.prog 0 = some 1 := by kernel_rfl
theorem by0 : bytQ Try.prog 0 = some 0 := by kernel_rfl
theorem ag0 : aggQ Try.prog 0 = some false := by kernel_rfl
theorem iu0 : ((Try.prog).underlying 0).isSome = true := by kernel_rfl
theorem ze0 : zerQ Try.prog 0 = some (Value.tuple { toList := [] }) := by kernel_rfl
theorem sz1 : sizQ Try.prog 1 = some 1 := by kernel_rfl
theorem by1 : bytQ Try.prog 1 = some 8 := by kernel_rfl
theorem ag1 : aggQ Try.prog 1 = some false := by kernel_rfl
theorem iu1 : ((Try.prog).underlying 1).isSome = true := by kernel_rfl
theorem ze1 : zerQ Try.prog 1 = some Value.nilFunc := by kernel_rfl
theorem sz2 : sizQ Try.prog 2 = some 1 := by kernel_rfl
theorem by2 : bytQ Try.prog 2 = some 8 := by kernel_rfl
theorem ag2 : aggQ Try.prog 2 = some false := by kernel_rfl
theorem in2 : intQ Try.prog 2 = some IntKind.i64 := by kernel_rfl
theorem ui2 : (Try.prog).underlying 2 = some (.int IntKind.i64) := by kernel_rfl
theorem iu2 : ((Try.prog).underlying 2).isSome = true := by kernel_rfl
theorem ze2 : zerQ Try.prog 2 = some (Value.int IntKind.i64 0) := by kernel_rfl
theorem sz3 : sizQ Try.prog 3 = some 1 := by kernel_rfl
theorem by3 : bytQ Try.prog 3 = some 8 := by kernel_rfl
theorem ag3 : aggQ Try.prog 3 = some false := by kernel_rfl
theorem in3 : intQ Try.prog 3 = some IntKind.i64 := by kernel_rfl
theorem ui3 : (Try.prog).underlying 3 = some (.int IntKind.i64) := by kernel_rfl
theorem iu3 : ((Try.prog).underlying 3).isSome = true := by kernel_rfl
theorem ze3 : zerQ Try.prog 3 = some (Value.int IntKind.i64 0) := by kernel_rfl
theorem sz4 : sizQ Try.prog 4 = some 1 := by kernel_rfl
theorem by4 : bytQ Try.prog 4 = some 1 := by kernel_rfl
theorem ag4 : aggQ Try.prog 4 = some false := by kernel_rfl
theorem un4 : (Try.prog).underlying 4 = some .bool := by kernel_rfl
theorem iu4 : ((Try.prog).underlying 4).isSome = true := by kernel_rfl
theorem ze4 : zerQ Try.prog 4 = some (Value.bool false) := by kernel_rfl
theorem sz5 : sizQ Try.prog 5 = some 1 := by kernel_rfl
theorem by5 : bytQ Try.prog 5 = some 1 := by kernel_rfl
theorem ag5 : aggQ Try.prog 5 = some false := by kernel_rfl
theorem in5 : intQ Try.prog 5 = some IntKind.u8 := by kernel_rfl
theorem ui5 : (Try.prog).underlying 5 = some (.int IntKind.u8) := by kernel_rfl
theorem iu5 : ((Try.prog).underlying 5).isSome = true := by kernel_rfl
theorem ze5 : zerQ Try.prog 5 = some (Value.int IntKind.u8 0) := by kernel_rfl
theorem sz6 : sizQ Try.prog 6 = some 1 := by kernel_rfl
theorem by6 : bytQ Try.prog 6 = some 1 := by kernel_rfl
theorem ag6 : aggQ Try.prog 6 = some false := by kernel_rfl
theorem in6 : intQ Try.prog 6 = some IntKind.u8 := by kernel_rfl
theorem ui6 : (Try.prog).underlying 6 = some (.int IntKind.u8) := by kernel_rfl
theorem iu6 : ((Try.prog).underlying 6).isSome = true := by kernel_rfl
theorem ze6 : zerQ Try.prog 6 = some (Value.int IntKind.u8 0) := by kernel_rfl
theorem sz7 : sizQ Try.prog 7 = some 4 := by kernel_rfl
theorem by7 : bytQ Try.prog 7 = some 24 := by kernel_rfl
theorem ag7 : aggQ Try.prog 7 = some true := by kernel_rfl
theorem iu7 : ((Try.prog).underlying 7).isSome = true := by kernel_rfl
theorem fl7_0 : fldQ Try.prog 7 0 = some (0, 2) := by kernel_rfl
theorem fl7_1 : fldQ Try.prog 7 1 = some (1, 3) := by kernel_rfl
theorem fl7_2 : fldQ Try.prog 7 2 = some (2, 4) := by kernel_rfl
theorem fl7_3 : fldQ Try.prog 7 3 = some (3, 6) := by kernel_rfl
theorem pl7 : plQ Try.prog 7 = some [(0, 1), (1, 1), (2, 1), (3, 1)] := by kernel_rfl
theorem ze7 : zerQ Try.prog 7 = some
  (Value.agg
    {
      toList :=
        [Value.int IntKind.i64 0, Value.int IntKind.i64 0, Value.bool false,
          Value.int IntKind.u8 0] }) := by kernel_rfl
theorem sz8 : sizQ Try.prog 8 = some 4 := by kernel_rfl
theorem by8 : bytQ Try.prog 8 = some 24 := by kernel_rfl
theorem ag8 : aggQ Try.prog 8 = some true := by kernel_rfl
theorem iu8 : ((Try.prog).underlying 8).isSome = true := by kernel_rfl
theorem fl8_0 : fldQ Try.prog 8 0 = some (0, 2) := by kernel_rfl
theorem fl8_1 : fldQ Try.prog 8 1 = some (1, 3) := by kernel_rfl
theorem fl8_2 : fldQ Try.prog 8 2 = some (2, 4) := by kernel_rfl
theorem fl8_3 : fldQ Try.prog 8 3 = some (3, 6) := by kernel_rfl
theorem pl8 : plQ Try.prog 8 = some [(0, 1), (1, 1), (2, 1), (3, 1)] := by kernel_rfl
theorem ze8 : zerQ Try.prog 8 = some
  (Value.agg
    {
      toList :=
        [Value.int IntKind.i64 0, Value.int IntKind.i64 0, Value.bool false,
          Value.int IntKind.u8 0] }) := by kernel_rfl
theorem sz9 : sizQ Try.prog 9 = some 1 := by kernel_rfl
theorem by9 : bytQ Try.prog 9 = some 16 := by kernel_rfl
theorem ag9 : aggQ Try.prog 9 = some false := by kernel_rfl
theorem un9 : (Try.prog).underlying 9 = some .string := by kernel_rfl
theorem iu9 : ((Try.prog).underlying 9).isSome = true := by kernel_rfl
theorem ze9 : zerQ Try.prog 9 = some (Value.string { data := { toList := [] } }) := by kernel_rfl
theorem sz10 : sizQ Try.prog 10 = some 1 := by kernel_rfl
theorem by10 : bytQ Try.prog 10 = some 16 := by kernel_rfl
theorem ag10 : aggQ Try.prog 10 = some false := by kernel_rfl
theorem un10 : (Try.prog).underlying 10 = some .string := by kernel_rfl
theorem iu10 : ((Try.prog).underlying 10).isSome = true := by kernel_rfl
theorem ze10 : zerQ Try.prog 10 = some (Value.string { data := { toList := [] } }) := by kernel_rfl
theorem sz11 : sizQ Try.prog 11 = some 1 := by kernel_rfl
theorem by11 : bytQ Try.prog 11 = some 16 := by kernel_rfl
theorem ag11 : aggQ Try.prog 11 = some false := by kernel_rfl
theorem un11 : (Try.prog).underlying 11 = some .string := by kernel_rfl
theorem iu11 : ((Try.prog).underlying 11).isSome = true := by kernel_rfl
theorem ze11 : zerQ Try.prog 11 = some (Value.string { data := { toList := [] } }) := by kernel_rfl
theorem sz12 : sizQ Try.prog 12 = some 1 := by kernel_rfl
theorem by12 : bytQ Try.prog 12 = some 8 := by kernel_rfl
theorem ag12 : aggQ Try.prog 12 = some false := by kernel_rfl
theorem in12 : intQ Try.prog 12 = some IntKind.u64 := by kernel_rfl
theorem ui12 : (Try.prog).underlying 12 = some (.int IntKind.u64) := by kernel_rfl
theorem iu12 : ((Try.prog).underlying 12).isSome = true := by kernel_rfl
theorem ze12 : zerQ Try.prog 12 = some (Value.int IntKind.u64 0) := by kernel_rfl
theorem sz13 : sizQ Try.prog 13 = some 2 := by kernel_rfl
theorem by13 : bytQ Try.prog 13 = some 24 := by kernel_rfl
theorem ag13 : aggQ Try.prog 13 = some true := by kernel_rfl
theorem iu13 : ((Try.prog).underlying 13).isSome = true := by kernel_rfl
theorem fl13_0 : fldQ Try.prog 13 0 = some (0, 9) := by kernel_rfl
theorem fl13_1 : fldQ Try.prog 13 1 = some (1, 12) := by kernel_rfl
theorem pl13 : plQ Try.prog 13 = some [(0, 1), (1, 1)] := by kernel_rfl
theorem ze13 : zerQ Try.prog 13 = some (Value.agg { toList := [Value.string { data := { toList := [] } }, Value.int IntKind.u64 0] }) := by kernel_rfl
theorem sz14 : sizQ Try.prog 14 = some 2 := by kernel_rfl
theorem by14 : bytQ Try.prog 14 = some 24 := by kernel_rfl
theorem ag14 : aggQ Try.prog 14 = some true := by kernel_rfl
theorem iu14 : ((Try.prog).underlying 14).isSome = true := by kernel_rfl
theorem fl14_0 : fldQ Try.prog 14 0 = some (0, 9) := by kernel_rfl
theorem fl14_1 : fldQ Try.prog 14 1 = some (1, 12) := by kernel_rfl
theorem pl14 : plQ Try.prog 14 = some [(0, 1), (1, 1)] := by kernel_rfl
theorem ze14 : zerQ Try.prog 14 = some (Value.agg { toList := [Value.string { data := { toList := [] } }, Value.int IntKind.u64 0] }) := by kernel_rfl
theorem sz15 : sizQ Try.prog 15 = some 1 := by kernel_rfl
theorem by15 : bytQ Try.prog 15 = some 8 := by kernel_rfl
theorem ag15 : aggQ Try.prog 15 = some false := by kernel_rfl
theorem pt15 : ptrQ Try.prog 15 = true := by kernel_rfl
theorem iu15 : ((Try.prog).underlying 15).isSome = true := by kernel_rfl
theorem ze15 : zerQ Try.prog 15 = some (Value.pointer none) := by kernel_rfl
theorem sz16 : sizQ Try.prog 16 = some 1 := by kernel_rfl
theorem by16 : bytQ Try.prog 16 = some 8 := by kernel_rfl
theorem ag16 : aggQ Try.prog 16 = some false := by kernel_rfl
theorem pt16 : ptrQ Try.prog 16 = true := by kernel_rfl
theorem iu16 : ((Try.prog).underlying 16).isSome = true := by kernel_rfl
theorem ze16 : zerQ Try.prog 16 = some (Value.pointer none) := by kernel_rfl
theorem sz17 : sizQ Try.prog 17 = some 1 := by kernel_rfl
theorem by17 : bytQ Try.prog 17 = some 8 := by kernel_rfl
theorem ag17 : aggQ Try.prog 17 = some false := by kernel_rfl
theorem pt17 : ptrQ Try.prog 17 = true := by kernel_rfl
theorem iu17 : ((Try.prog).underlying 17).isSome = true := by kernel_rfl
theorem ze17 : zerQ Try.prog 17 = some (Value.pointer none) := by kernel_rfl
theorem sz18 : sizQ Try.prog 18 = some 1 := by kernel_rfl
theorem by18 : bytQ Try.prog 18 = some 8 := by kernel_rfl
theorem ag18 : aggQ Try.prog 18 = some true := by kernel_rfl
theorem iu18 : ((Try.prog).underlying 18).isSome = true := by kernel_rfl
theorem fl18_0 : fldQ Try.prog 18 0 = some (0, 17) := by kernel_rfl
theorem pl18 : plQ Try.prog 18 = some [(0, 1)] := by kernel_rfl
theorem ze18 : zerQ Try.prog 18 = some (Value.agg { toList := [Value.pointer none] }) := by kernel_rfl
theorem sz19 : sizQ Try.prog 19 = some 1 := by kernel_rfl
theorem by19 : bytQ Try.prog 19 = some 8 := by kernel_rfl
theorem ag19 : aggQ Try.prog 19 = some true := by kernel_rfl
theorem iu19 : ((Try.prog).underlying 19).isSome = true := by kernel_rfl
theorem fl19_0 : fldQ Try.prog 19 0 = some (0, 17) := by kernel_rfl
theorem pl19 : plQ Try.prog 19 = some [(0, 1)] := by kernel_rfl
theorem ze19 : zerQ Try.prog 19 = some (Value.agg { toList := [Value.pointer none] }) := by kernel_rfl
theorem sz20 : sizQ Try.prog 20 = some 1 := by kernel_rfl
theorem by20 : bytQ Try.prog 20 = some 16 := by kernel_rfl
theorem ag20 : aggQ Try.prog 20 = some false := by kernel_rfl
theorem iu20 : ((Try.prog).underlying 20).isSome = true := by kernel_rfl
theorem ze20 : zerQ Try.prog 20 = some Value.nilIface := by kernel_rfl
theorem sz21 : sizQ Try.prog 21 = some 1 := by kernel_rfl
theorem by21 : bytQ Try.prog 21 = some 4 := by kernel_rfl
theorem ag21 : aggQ Try.prog 21 = some false := by kernel_rfl
theorem in21 : intQ Try.prog 21 = some IntKind.i32 := by kernel_rfl
theorem ui21 : (Try.prog).underlying 21 = some (.int IntKind.i32) := by kernel_rfl
theorem iu21 : ((Try.prog).underlying 21).isSome = true := by kernel_rfl
theorem ze21 : zerQ Try.prog 21 = some (Value.int IntKind.i32 0) := by kernel_rfl
theorem sl22 : slQ Try.prog 22 = some 3 := by kernel_rfl
theorem sz22 : sizQ Try.prog 22 = some 1 := by kernel_rfl
theorem by22 : bytQ Try.prog 22 = some 24 := by kernel_rfl
theorem ag22 : aggQ Try.prog 22 = some false := by kernel_rfl
theorem us22 : (Try.prog).underlying 22 = some (.slice 3) := by kernel_rfl
theorem iu22 : ((Try.prog).underlying 22).isSome = true := by kernel_rfl
theorem ze22 : zerQ Try.prog 22 = some (Value.slice none 0 0) := by kernel_rfl
theorem sz23 : sizQ Try.prog 23 = some 4 := by kernel_rfl
theorem by23 : bytQ Try.prog 23 = some 32 := by kernel_rfl
theorem ag23 : aggQ Try.prog 23 = some true := by kernel_rfl
theorem ar23 : arQ Try.prog 23 = some (4, 2) := by kernel_rfl
theorem iu23 : ((Try.prog).underlying 23).isSome = true := by kernel_rfl
theorem ze23 : zerQ Try.prog 23 = some
  (Value.agg
    {
      toList :=
        [Value.int IntKind.i64 0, Value.int IntKind.i64 0, Value.int IntKind.i64 0,
          Value.int IntKind.i64 0] }) := by kernel_rfl
theorem sz24 : sizQ Try.prog 24 = some 1 := by kernel_rfl
theorem by24 : bytQ Try.prog 24 = some 8 := by kernel_rfl
theorem ag24 : aggQ Try.prog 24 = some false := by kernel_rfl
theorem in24 : intQ Try.prog 24 = some IntKind.u64 := by kernel_rfl
theorem ui24 : (Try.prog).underlying 24 = some (.int IntKind.u64) := by kernel_rfl
theorem iu24 : ((Try.prog).underlying 24).isSome = true := by kernel_rfl
theorem ze24 : zerQ Try.prog 24 = some (Value.int IntKind.u64 0) := by kernel_rfl
theorem sz25 : sizQ Try.prog 25 = some 26 := by kernel_rfl
theorem by25 : bytQ Try.prog 25 = some 208 := by kernel_rfl
theorem ag25 : aggQ Try.prog 25 = some true := by kernel_rfl
theorem iu25 : ((Try.prog).underlying 25).isSome = true := by kernel_rfl
theorem fl25_0 : fldQ Try.prog 25 0 = some (0, 3) := by kernel_rfl
theorem fl25_1 : fldQ Try.prog 25 1 = some (1, 3) := by kernel_rfl
theorem fl25_2 : fldQ Try.prog 25 2 = some (2, 3) := by kernel_rfl
theorem fl25_3 : fldQ Try.prog 25 3 = some (3, 3) := by kernel_rfl
theorem fl25_4 : fldQ Try.prog 25 4 = some (4, 3) := by kernel_rfl
theorem fl25_5 : fldQ Try.prog 25 5 = some (5, 3) := by kernel_rfl
theorem fl25_6 : fldQ Try.prog 25 6 = some (6, 3) := by kernel_rfl
theorem fl25_7 : fldQ Try.prog 25 7 = some (7, 23) := by kernel_rfl
theorem fl25_8 : fldQ Try.prog 25 8 = some (11, 3) := by kernel_rfl
theorem fl25_9 : fldQ Try.prog 25 9 = some (12, 3) := by kernel_rfl
theorem fl25_10 : fldQ Try.prog 25 10 = some (13, 3) := by kernel_rfl
theorem fl25_11 : fldQ Try.prog 25 11 = some (14, 3) := by kernel_rfl
theorem fl25_12 : fldQ Try.prog 25 12 = some (15, 3) := by kernel_rfl
theorem fl25_13 : fldQ Try.prog 25 13 = some (16, 3) := by kernel_rfl
theorem fl25_14 : fldQ Try.prog 25 14 = some (17, 3) := by kernel_rfl
theorem fl25_15 : fldQ Try.prog 25 15 = some (18, 3) := by kernel_rfl
theorem fl25_16 : fldQ Try.prog 25 16 = some (19, 3) := by kernel_rfl
theorem fl25_17 : fldQ Try.prog 25 17 = some (20, 3) := by kernel_rfl
theorem fl25_18 : fldQ Try.prog 25 18 = some (21, 2) := by kernel_rfl
theorem fl25_19 : fldQ Try.prog 25 19 = some (22, 3) := by kernel_rfl
theorem fl25_20 : fldQ Try.prog 25 20 = some (23, 3) := by kernel_rfl
theorem fl25_21 : fldQ Try.prog 25 21 = some (24, 3) := by kernel_rfl
theorem fl25_22 : fldQ Try.prog 25 22 = some (25, 24) := by kernel_rfl
theorem pl25 : plQ Try.prog 25 = some [(0, 1), (1, 1), (2, 1), (3, 1), (4, 1), (5, 1), (6, 1), (7, 4), (11, 1), (12, 1), (13, 1), (14, 1), (15, 1), (16, 1), (17, 1), (18, 1), (19, 1), (20, 1), (21, 1), (22, 1), (23, 1), (24, 1), (25, 1)] := by kernel_rfl
theorem ze25 : zerQ Try.prog 25 = some
  (Value.agg
    {
      toList :=
        [Value.int IntKind.i64 0, Value.int IntKind.i64 0, Value.int IntKind.i64 0,
          Value.int IntKind.i64 0, Value.int IntKind.i64 0, Value.int IntKind.i64 0,
          Value.int IntKind.i64 0, Value.int IntKind.i64 0, Value.int IntKind.i64 0,
          Value.int IntKind.i64 0, Value.int IntKind.i64 0, Value.int IntKind.i64 0,
          Value.int IntKind.i64 0, Value.int IntKind.i64 0, Value.int IntKind.i64 0,
          Value.int IntKind.i64 0, Value.int IntKind.i64 0, Value.int IntKind.i64 0,
          Value.int IntKind.i64 0, Value.int IntKind.i64 0, Value.int IntKind.i64 0,
          Value.int IntKind.i64 0, Value.int IntKind.i64 0, Value.int IntKind.i64 0,
          Value.int IntKind.i64 0, Value.int IntKind.u64 0] }) := by kernel_rfl
theorem sz26 : sizQ Try.prog 26 = some 26 := by kernel_rfl
theorem by26 : bytQ Try.prog 26 = some 208 := by kernel_rfl
theorem ag26 : aggQ Try.prog 26 = some true := by kernel_rfl
theorem iu26 : ((Try.prog).underlying 26).isSome = true := by kernel_rfl
theorem fl26_0 : fldQ Try.prog 26 0 = some (0, 3) := by kernel_rfl
theorem fl26_1 : fldQ Try.prog 26 1 = some (1, 3) := by kernel_rfl
theorem fl26_2 : fldQ Try.prog 26 2 = some (2, 3) := by kernel_rfl
theorem fl26_3 : fldQ Try.prog 26 3 = some (3, 3) := by kernel_rfl
theorem fl26_4 : fldQ Try.prog 26 4 = some (4, 3) := by kernel_rfl
theorem fl26_5 : fldQ Try.prog 26 5 = some (5, 3) := by kernel_rfl
theorem fl26_6 : fldQ Try.prog 26 6 = some (6, 3) := by kernel_rfl
theorem fl26_7 : fldQ Try.prog 26 7 = some (7, 23) := by kernel_rfl
theorem fl26_8 : fldQ Try.prog 26 8 = some (11, 3) := by kernel_rfl
theorem fl26_9 : fldQ Try.prog 26 9 = some (12, 3) := by kernel_rfl
theorem fl26_10 : fldQ Try.prog 26 10 = some (13, 3) := by kernel_rfl
theorem fl26_11 : fldQ Try.prog 26 11 = some (14, 3) := by kernel_rfl
theorem fl26_12 : fldQ Try.prog 26 12 = some (15, 3) := by kernel_rfl
theorem fl26_13 : fldQ Try.prog 26 13 = some (16, 3) := by kernel_rfl
theorem fl26_14 : fldQ Try.prog 26 14 = some (17, 3) := by kernel_rfl
theorem fl26_15 : fldQ Try.prog 26 15 = some (18, 3) := by kernel_rfl
theorem fl26_16 : fldQ Try.prog 26 16 = some (19, 3) := by kernel_rfl
theorem fl26_17 : fldQ Try.prog 26 17 = some (20, 3) := by kernel_rfl
theorem fl26_18 : fldQ Try.prog 26 18 = some (21, 2) := by kernel_rfl
theorem fl26_19 : fldQ Try.prog 26 19 = some (22, 3) := by kernel_rfl
theorem fl26_20 : fldQ Try.prog 26 20 = some (23, 3) := by kernel_rfl
theorem fl26_21 : fldQ Try.prog 26 21 = some (24, 3) := by kernel_rfl
theorem fl26_22 : fldQ Try.prog 26 22 = some (25, 24) := by kernel_rfl
theorem pl26 : plQ Try.prog 26 = some [(0, 1), (1, 1), (2, 1), (3, 1), (4, 1), (5, 1), (6, 1), (7, 4), (11, 1), (12, 1), (13, 1), (14, 1), (15, 1), (16, 1), (17, 1), (18, 1), (19, 1), (20, 1), (21, 1), (22, 1), (23, 1), (24, 1), (25, 1)] := by kernel_rfl
theorem ze26 : zerQ Try.prog 26 = some
  (Value.agg
    {
      toList :=
        [Value.int IntKind.i64 0, Value.int IntKind.i64 0, Value.int IntKind.i64 0,
          Value.int IntKind.i64 0, Value.int IntKind.i64 0, Value.int IntKind.i64 0,
          Value.int IntKind.i64 0, Value.int IntKind.i64 0, Value.int IntKind.i64 0,
          Value.int IntKind.i64 0, Value.int IntKind.i64 0, Value.int IntKind.i64 0,
          Value.int IntKind.i64 0, Value.int IntKind.i64 0, Value.int IntKind.i64 0,
          Value.int IntKind.i64 0, Value.int IntKind.i64 0, Value.int IntKind.i64 0,
          Value.int IntKind.i64 0, Value.int IntKind.i64 0, Value.int IntKind.i64 0,
          Value.int IntKind.i64 0, Value.int IntKind.i64 0, Value.int IntKind.i64 0,
          Value.int IntKind.i64 0, Value.int IntKind.u64 0] }) := by kernel_rfl
theorem sz27 : sizQ Try.prog 27 = some 1 := by kernel_rfl
theorem by27 : bytQ Try.prog 27 = some 8 := by kernel_rfl
theorem ag27 : aggQ Try.prog 27 = some false := by kernel_rfl
theorem iu27 : ((Try.prog).underlying 27).isSome = true := by kernel_rfl
theorem ze27 : zerQ Try.prog 27 = some Value.nilFunc := by kernel_rfl
theorem sz28 : sizQ Try.prog 28 = some 1 := by kernel_rfl
theorem by28 : bytQ Try.prog 28 = some 8 := by kernel_rfl
theorem ag28 : aggQ Try.prog 28 = some false := by kernel_rfl
theorem pt28 : ptrQ Try.prog 28 = true := by kernel_rfl
theorem iu28 : ((Try.prog).underlying 28).isSome = true := by kernel_rfl
theorem ze28 : zerQ Try.prog 28 = some (Value.pointer none) := by kernel_rfl
theorem sz29 : sizQ Try.prog 29 = some 1 := by kernel_rfl
theorem by29 : bytQ Try.prog 29 = some 8 := by kernel_rfl
theorem ag29 : aggQ Try.prog 29 = some false := by kernel_rfl
theorem iu29 : ((Try.prog).underlying 29).isSome = true := by kernel_rfl
theorem ze29 : zerQ Try.prog 29 = some Value.nilFunc := by kernel_rfl
theorem sz30 : sizQ Try.prog 30 = some 1 := by kernel_rfl
theorem by30 : bytQ Try.prog 30 = some 8 := by kernel_rfl
theorem ag30 : aggQ Try.prog 30 = some false := by kernel_rfl
theorem iu30 : ((Try.prog).underlying 30).isSome = true := by kernel_rfl
theorem ze30 : zerQ Try.prog 30 = some Value.nilFunc := by kernel_rfl
theorem sz31 : sizQ Try.prog 31 = some 16 := by kernel_rfl
theorem by31 : bytQ Try.prog 31 = some 16 := by kernel_rfl
theorem ag31 : aggQ Try.prog 31 = some true := by kernel_rfl
theorem ar31 : arQ Try.prog 31 = some (16, 4) := by kernel_rfl
theorem iu31 : ((Try.prog).underlying 31).isSome = true := by kernel_rfl
theorem ze31 : zerQ Try.prog 31 = some
  (Value.agg
    {
      toList :=
        [Value.bool false, Value.bool false, Value.bool false, Value.bool false, Value.bool false, Value.bool false,
          Value.bool false, Value.bool false, Value.bool false, Value.bool false, Value.bool false, Value.bool false,
          Value.bool false, Value.bool false, Value.bool false, Value.bool false] }) := by kernel_rfl
theorem sz32 : sizQ Try.prog 32 = some 1 := by kernel_rfl
theorem by32 : bytQ Try.prog 32 = some 8 := by kernel_rfl
theorem ag32 : aggQ Try.prog 32 = some false := by kernel_rfl
theorem in32 : intQ Try.prog 32 = some IntKind.u64 := by kernel_rfl
theorem ui32 : (Try.prog).underlying 32 = some (.int IntKind.u64) := by kernel_rfl
theorem iu32 : ((Try.prog).underlying 32).isSome = true := by kernel_rfl
theorem ze32 : zerQ Try.prog 32 = some (Value.int IntKind.u64 0) := by kernel_rfl
theorem sz33 : sizQ Try.prog 33 = some 1 := by kernel_rfl
theorem by33 : bytQ Try.prog 33 = some 8 := by kernel_rfl
theorem ag33 : aggQ Try.prog 33 = some false := by kernel_rfl
theorem iu33 : ((Try.prog).underlying 33).isSome = true := by kernel_rfl
theorem ze33 : zerQ Try.prog 33 = some Value.nilFunc := by kernel_rfl
theorem sz34 : sizQ Try.prog 34 = some 1 := by kernel_rfl
theorem by34 : bytQ Try.prog 34 = some 8 := by kernel_rfl
theorem ag34 : aggQ Try.prog 34 = some false := by kernel_rfl
theorem iu34 : ((Try.prog).underlying 34).isSome = true := by kernel_rfl
theorem ze34 : zerQ Try.prog 34 = some Value.nilFunc := by kernel_rfl
theorem sz35 : sizQ Try.prog 35 = some 1 := by kernel_rfl
theorem by35 : bytQ Try.prog 35 = some 8 := by kernel_rfl
theorem ag35 : aggQ Try.prog 35 = some false := by kernel_rfl
theorem iu35 : ((Try.prog).underlying 35).isSome = true := by kernel_rfl
theorem ze35 : zerQ Try.prog 35 = some Value.nilFunc := by kernel_rfl
theorem sl36 : slQ Try.prog 36 = some 2 := by kernel_rfl
theorem sz36 : sizQ Try.prog 36 = some 1 := by kernel_rfl
theorem by36 : bytQ Try.prog 36 = some 24 := by kernel_rfl
theorem ag36 : aggQ Try.prog 36 = some false := by kernel_rfl
theorem us36 : (Try.prog).underlying 36 = some (.slice 2) := by kernel_rfl
theorem iu36 : ((Try.prog).underlying 36).isSome = true := by kernel_rfl
theorem ze36 : zerQ Try.prog 36 = some (Value.slice none 0 0) := by kernel_rfl
theorem sl37 : slQ Try.prog 37 = some 5 := by kernel_rfl
theorem sz37 : sizQ Try.prog 37 = some 1 := by kernel_rfl
theorem by37 : bytQ Try.prog 37 = some 24 := by kernel_rfl
theorem ag37 : aggQ Try.prog 37 = some false := by kernel_rfl
theorem us37 : (Try.prog).underlying 37 = some (.slice 5) := by kernel_rfl
theorem iu37 : ((Try.prog).underlying 37).isSome = true := by kernel_rfl
theorem ze37 : zerQ Try.prog 37 = some (Value.slice none 0 0) := by kernel_rfl
theorem sz38 : sizQ Try.prog 38 = some 1 := by kernel_rfl
theorem by38 : bytQ Try.prog 38 = some 0 := by kernel_rfl
theorem ag38 : aggQ Try.prog 38 = some false := by kernel_rfl
theorem iu38 : ((Try.prog).underlying 38).isSome = true := by kernel_rfl
theorem ze38 : zerQ Try.prog 38 = some (Value.tuple { toList := [Value.slice none 0 0, Value.int IntKind.i64 0] }) := by kernel_rfl
theorem sz39 : sizQ Try.prog 39 = some 1 := by kernel_rfl
theorem by39 : bytQ Try.prog 39 = some 8 := by kernel_rfl
theorem ag39 : aggQ Try.prog 39 = some false := by kernel_rfl
theorem iu39 : ((Try.prog).underlying 39).isSome = true := by kernel_rfl
theorem ze39 : zerQ Try.prog 39 = some Value.nilFunc := by kernel_rfl
theorem sz40 : sizQ Try.prog 40 = some 1 := by kernel_rfl
theorem by40 : bytQ Try.prog 40 = some 8 := by kernel_rfl
theorem ag40 : aggQ Try.prog 40 = some false := by kernel_rfl
theorem iu40 : ((Try.prog).underlying 40).isSome = true := by kernel_rfl
theorem ze40 : zerQ Try.prog 40 = some Value.nilFunc := by kernel_rfl
theorem sz41 : sizQ Try.prog 41 = some 1 := by kernel_rfl
theorem by41 : bytQ Try.prog 41 = some 8 := by kernel_rfl
theorem ag41 : aggQ Try.prog 41 = some false := by kernel_rfl
theorem iu41 : ((Try.prog).underlying 41).isSome = true := by kernel_rfl
theorem ze41 : zerQ Try.prog 41 = some Value.nilFunc := by kernel_rfl
theorem sl42 : slQ Try.prog 42 = some 46 := by kernel_rfl
theorem sz42 : sizQ Try.prog 42 = some 1 := by kernel_rfl
theorem by42 : bytQ Try.prog 42 = some 24 := by kernel_rfl
theorem ag42 : aggQ Try.prog 42 = some false := by kernel_rfl
theorem us42 : (Try.prog).underlying 42 = some (.slice 46) := by kernel_rfl
theorem iu42 : ((Try.prog).underlying 42).isSome = true := by kernel_rfl
theorem ze42 : zerQ Try.prog 42 = some (Value.slice none 0 0) := by kernel_rfl
theorem sz43 : sizQ Try.prog 43 = some 1 := by kernel_rfl
theorem by43 : bytQ Try.prog 43 = some 8 := by kernel_rfl
theorem ag43 : aggQ Try.prog 43 = some false := by kernel_rfl
theorem pt43 : ptrQ Try.prog 43 = true := by kernel_rfl
theorem iu43 : ((Try.prog).underlying 43).isSome = true := by kernel_rfl
theorem ze43 : zerQ Try.prog 43 = some (Value.pointer none) := by kernel_rfl
theorem sz44 : sizQ Try.prog 44 = some 1 := by kernel_rfl
theorem by44 : bytQ Try.prog 44 = some 8 := by kernel_rfl
theorem ag44 : aggQ Try.prog 44 = some false := by kernel_rfl
theorem iu44 : ((Try.prog).underlying 44).isSome = true := by kernel_rfl
theorem ze44 : zerQ Try.prog 44 = some Value.nilFunc := by kernel_rfl
theorem sz45 : sizQ Try.prog 45 = some 7 := by kernel_rfl
theorem by45 : bytQ Try.prog 45 = some 56 := by kernel_rfl
theorem ag45 : aggQ Try.prog 45 = some true := by kernel_rfl
theorem iu45 : ((Try.prog).underlying 45).isSome = true := by kernel_rfl
theorem fl45_0 : fldQ Try.prog 45 0 = some (0, 3) := by kernel_rfl
theorem fl45_1 : fldQ Try.prog 45 1 = some (1, 3) := by kernel_rfl
theorem fl45_2 : fldQ Try.prog 45 2 = some (2, 3) := by kernel_rfl
theorem fl45_3 : fldQ Try.prog 45 3 = some (3, 3) := by kernel_rfl
theorem fl45_4 : fldQ Try.prog 45 4 = some (4, 2) := by kernel_rfl
theorem fl45_5 : fldQ Try.prog 45 5 = some (5, 2) := by kernel_rfl
theorem fl45_6 : fldQ Try.prog 45 6 = some (6, 2) := by kernel_rfl
theorem pl45 : plQ Try.prog 45 = some [(0, 1), (1, 1), (2, 1), (3, 1), (4, 1), (5, 1), (6, 1)] := by kernel_rfl
theorem ze45 : zerQ Try.prog 45 = some
  (Value.agg
    {
      toList :=
        [Value.int IntKind.i64 0, Value.int IntKind.i64 0, Value.int IntKind.i64 0,
          Value.int IntKind.i64 0, Value.int IntKind.i64 0, Value.int IntKind.i64 0,
          Value.int IntKind.i64 0] }) := by kernel_rfl
theorem sz46 : sizQ Try.prog 46 = some 7 := by kernel_rfl
theorem by46 : bytQ Try.prog 46 = some 56 := by kernel_rfl
theorem ag46 : aggQ Try.prog 46 = some true := by kernel_rfl
theorem iu46 : ((Try.prog).underlying 46).isSome = true := by kernel_rfl
theorem fl46_0 : fldQ Try.prog 46 0 = some (0, 3) := by kernel_rfl
theorem fl46_1 : fldQ Try.prog 46 1 = some (1, 3) := by kernel_rfl
theorem fl46_2 : fldQ Try.prog 46 2 = some (2, 3) := by kernel_rfl
theorem fl46_3 : fldQ Try.prog 46 3 = some (3, 3) := by kernel_rfl
theorem fl46_4 : fldQ Try.prog 46 4 = some (4, 2) := by kernel_rfl
theorem fl46_5 : fldQ Try.prog 46 5 = some (5, 2) := by kernel_rfl
theorem fl46_6 : fldQ Try.prog 46 6 = some (6, 2) := by kernel_rfl
theorem pl46 : plQ Try.prog 46 = some [(0, 1), (1, 1), (2, 1), (3, 1), (4, 1), (5, 1), (6, 1)] := by kernel_rfl
theorem ze46 : zerQ Try.prog 46 = some
  (Value.agg
    {
      toList :=
        [Value.int IntKind.i64 0, Value.int IntKind.i64 0, Value.int IntKind.i64 0,
          Value.int IntKind.i64 0, Value.int IntKind.i64 0, Value.int IntKind.i64 0,
          Value.int IntKind.i64 0] }) := by kernel_rfl
theorem sz47 : sizQ Try.prog 47 = some 1 := by kernel_rfl
theorem by47 : bytQ Try.prog 47 = some 0 := by kernel_rfl
theorem ag47 : aggQ Try.prog 47 = some false := by kernel_rfl
theorem iu47 : ((Try.prog).underlying 47).isSome = true := by kernel_rfl
theorem ze47 : zerQ Try.prog 47 = some (Value.tuple { toList := [Value.string { data := { toList := [] } }, Value.int IntKind.i64 0] }) := by kernel_rfl
theorem sz48 : sizQ Try.prog 48 = some 1 := by kernel_rfl
theorem by48 : bytQ Try.prog 48 = some 8 := by kernel_rfl
theorem ag48 : aggQ Try.prog 48 = some false := by kernel_rfl
theorem iu48 : ((Try.prog).underlying 48).isSome = true := by kernel_rfl
theorem ze48 : zerQ Try.prog 48 = some Value.nilFunc := by kernel_rfl
theorem sz49 : sizQ Try.prog 49 = some 1 := by kernel_rfl
theorem by49 : bytQ Try.prog 49 = some 8 := by kernel_rfl
theorem ag49 : aggQ Try.prog 49 = some false := by kernel_rfl
theorem iu49 : ((Try.prog).underlying 49).isSome = true := by kernel_rfl
theorem ze49 : zerQ Try.prog 49 = some Value.nilFunc := by kernel_rfl
theorem sz50 : sizQ Try.prog 50 = some 1 := by kernel_rfl
theorem by50 : bytQ Try.prog 50 = some 8 := by kernel_rfl
theorem ag50 : aggQ Try.prog 50 = some false := by kernel_rfl
theorem iu50 : ((Try.prog).underlying 50).isSome = true := by kernel_rfl
theorem ze50 : zerQ Try.prog 50 = some Value.nilFunc := by kernel_rfl
theorem sz51 : sizQ Try.prog 51 = some 1 := by kernel_rfl
theorem by51 : bytQ Try.prog 51 = some 8 := by kernel_rfl
theorem ag51 : aggQ Try.prog 51 = some false := by kernel_rfl
theorem iu51 : ((Try.prog).underlying 51).isSome = true := by kernel_rfl
theorem ze51 : zerQ Try.prog 51 = some Value.nilFunc := by kernel_rfl
theorem sz52 : sizQ Try.prog 52 = some 1 := by kernel_rfl
theorem by52 : bytQ Try.prog 52 = some 8 := by kernel_rfl
theorem ag52 : aggQ Try.prog 52 = some false := by kernel_rfl
theorem iu52 : ((Try.prog).underlying 52).isSome = true := by kernel_rfl
theorem ze52 : zerQ Try.prog 52 = some Value.nilFunc := by kernel_rfl
theorem sz53 : sizQ Try.prog 53 = some 1 := by kernel_rfl
theorem by53 : bytQ Try.prog 53 = some 8 := by kernel_rfl
theorem ag53 : aggQ Try.prog 53 = some false := by kernel_rfl
theorem iu53 : ((Try.prog).underlying 53).isSome = true := by kernel_rfl
theorem ze53 : zerQ Try.prog 53 = some Value.nilFunc := by kernel_rfl
theorem sz54 : sizQ Try.prog 54 = some 1 := by kernel_rfl
theorem by54 : bytQ Try.prog 54 = some 8 := by kernel_rfl
theorem ag54 : aggQ Try.prog 54 = some false := by kernel_rfl
theorem iu54 : ((Try.prog).underlying 54).isSome = true := by kernel_rfl
theorem ze54 : zerQ Try.prog 54 = some Value.nilFunc := by kernel_rfl
theorem sz55 : sizQ Try.prog 55 = some 1 := by kernel_rfl
theorem by55 : bytQ Try.prog 55 = some 8 := by kernel_rfl
theorem ag55 : aggQ Try.prog 55 = some false := by kernel_rfl
theorem pt55 : ptrQ Try.prog 55 = true := by kernel_rfl
theorem iu55 : ((Try.prog).underlying 55).isSome = true := by kernel_rfl
theorem ze55 : zerQ Try.prog 55 = some (Value.pointer none) := by kernel_rfl
theorem sz56 : sizQ Try.prog 56 = some 1 := by kernel_rfl
theorem by56 : bytQ Try.prog 56 = some 8 := by kernel_rfl
theorem ag56 : aggQ Try.prog 56 = some false := by kernel_rfl
theorem iu56 : ((Try.prog).underlying 56).isSome = true := by kernel_rfl
theorem ze56 : zerQ Try.prog 56 = some Value.nilFunc := by kernel_rfl
theorem sz57 : sizQ Try.prog 57 = some 1 := by kernel_rfl
theorem by57 : bytQ Try.prog 57 = some 8 := by kernel_rfl
theorem ag57 : aggQ Try.prog 57 = some false := by kernel_rfl
theorem pt57 : ptrQ Try.prog 57 = true := by kernel_rfl
theorem iu57 : ((Try.prog).underlying 57).isSome = true := by kernel_rfl
theorem ze57 : zerQ Try.prog 57 = some (Value.pointer none) := by kernel_rfl
theorem sz58 : sizQ Try.prog 58 = some 1 := by kernel_rfl
theorem by58 : bytQ Try.prog 58 = some 8 := by kernel_rfl
theorem ag58 : aggQ Try.prog 58 = some false := by kernel_rfl
theorem iu58 : ((Try.prog).underlying 58).isSome = true := by kernel_rfl
theorem ze58 : zerQ Try.prog 58 = some Value.nilFunc := by kernel_rfl
theorem sz59 : sizQ Try.prog 59 = some 1 := by kernel_rfl
theorem by59 : bytQ Try.prog 59 = some 8 := by kernel_rfl
theorem ag59 : aggQ Try.prog 59 = some false := by kernel_rfl
theorem iu59 : ((Try.prog).underlying 59).isSome = true := by kernel_rfl
theorem ze59 : zerQ Try.prog 59 = some Value.nilFunc := by kernel_rfl
theorem sz60 : sizQ Try.prog 60 = some 7 := by kernel_rfl
theorem by60 : bytQ Try.prog 60 = some 56 := by kernel_rfl
theorem ag60 : aggQ Try.prog 60 = some true := by kernel_rfl
theorem iu60 : ((Try.prog).underlying 60).isSome = true := by kernel_rfl
theorem fl60_0 : fldQ Try.prog 60 0 = some (0, 3) := by kernel_rfl
theorem fl60_1 : fldQ Try.prog 60 1 = some (1, 3) := by kernel_rfl
theorem fl60_2 : fldQ Try.prog 60 2 = some (2, 3) := by kernel_rfl
theorem fl60_3 : fldQ Try.prog 60 3 = some (3, 2) := by kernel_rfl
theorem fl60_4 : fldQ Try.prog 60 4 = some (4, 2) := by kernel_rfl
theorem fl60_5 : fldQ Try.prog 60 5 = some (5, 2) := by kernel_rfl
theorem fl60_6 : fldQ Try.prog 60 6 = some (6, 3) := by kernel_rfl
theorem pl60 : plQ Try.prog 60 = some [(0, 1), (1, 1), (2, 1), (3, 1), (4, 1), (5, 1), (6, 1)] := by kernel_rfl
theorem ze60 : zerQ Try.prog 60 = some
  (Value.agg
    {
      toList :=
        [Value.int IntKind.i64 0, Value.int IntKind.i64 0, Value.int IntKind.i64 0,
          Value.int IntKind.i64 0, Value.int IntKind.i64 0, Value.int IntKind.i64 0,
          Value.int IntKind.i64 0] }) := by kernel_rfl
theorem sz61 : sizQ Try.prog 61 = some 7 := by kernel_rfl
theorem by61 : bytQ Try.prog 61 = some 56 := by kernel_rfl
theorem ag61 : aggQ Try.prog 61 = some true := by kernel_rfl
theorem iu61 : ((Try.prog).underlying 61).isSome = true := by kernel_rfl
theorem fl61_0 : fldQ Try.prog 61 0 = some (0, 3) := by kernel_rfl
theorem fl61_1 : fldQ Try.prog 61 1 = some (1, 3) := by kernel_rfl
theorem fl61_2 : fldQ Try.prog 61 2 = some (2, 3) := by kernel_rfl
theorem fl61_3 : fldQ Try.prog 61 3 = some (3, 2) := by kernel_rfl
theorem fl61_4 : fldQ Try.prog 61 4 = some (4, 2) := by kernel_rfl
theorem fl61_5 : fldQ Try.prog 61 5 = some (5, 2) := by kernel_rfl
theorem fl61_6 : fldQ Try.prog 61 6 = some (6, 3) := by kernel_rfl
theorem pl61 : plQ Try.prog 61 = some [(0, 1), (1, 1), (2, 1), (3, 1), (4, 1), (5, 1), (6, 1)] := by kernel_rfl
theorem ze61 : zerQ Try.prog 61 = some
  (Value.agg
    {
      toList :=
        [Value.int IntKind.i64 0, Value.int IntKind.i64 0, Value.int IntKind.i64 0,
          Value.int IntKind.i64 0, Value.int IntKind.i64 0, Value.int IntKind.i64 0,
          Value.int IntKind.i64 0] }) := by kernel_rfl
theorem sz62 : sizQ Try.prog 62 = some 1 := by kernel_rfl
theorem by62 : bytQ Try.prog 62 = some 0 := by kernel_rfl
theorem ag62 : aggQ Try.prog 62 = some false := by kernel_rfl
theorem iu62 : ((Try.prog).underlying 62).isSome = true := by kernel_rfl
theorem ze62 : zerQ Try.prog 62 = some
  (Value.tuple
    {
      toList :=
        [Value.agg
            {
              toList :=
                [Value.int IntKind.i64 0, Value.int IntKind.i64 0,
                  Value.int IntKind.i64 0, Value.int IntKind.i64 0,
                  Value.int IntKind.i64 0, Value.int IntKind.i64 0,
                  Value.int IntKind.i64 0] },
          Value.int IntKind.i64 0] }) := by kernel_rfl
theorem sz63 : sizQ Try.prog 63 = some 1 := by kernel_rfl
theorem by63 : bytQ Try.prog 63 = some 8 := by kernel_rfl
theorem ag63 : aggQ Try.prog 63 = some false := by kernel_rfl
theorem iu63 : ((Try.prog).underlying 63).isSome = true := by kernel_rfl
theorem ze63 : zerQ Try.prog 63 = some Value.nilFunc := by kernel_rfl
theorem sz64 : sizQ Try.prog 64 = some 1 := by kernel_rfl
theorem by64 : bytQ Try.prog 64 = some 8 := by kernel_rfl
theorem ag64 : aggQ Try.prog 64 = some false := by kernel_rfl
theorem iu64 : ((Try.prog).underlying 64).isSome = true := by kernel_rfl
theorem ze64 : zerQ Try.prog 64 = some Value.nilFunc := by kernel_rfl
theorem sz65 : sizQ Try.prog 65 = some 1 := by kernel_rfl
theorem by65 : bytQ Try.prog 65 = some 8 := by kernel_rfl
theorem ag65 : aggQ Try.prog 65 = some false := by kernel_rfl
theorem iu65 : ((Try.prog).underlying 65).isSome = true := by kernel_rfl
theorem ze65 : zerQ Try.prog 65 = some Value.nilFunc := by kernel_rfl
theorem sz66 : sizQ Try.prog 66 = some 1 := by kernel_rfl
theorem by66 : bytQ Try.prog 66 = some 8 := by kernel_rfl
theorem ag66 : aggQ Try.prog 66 = some false := by kernel_rfl
theorem iu66 : ((Try.prog).underlying 66).isSome = true := by kernel_rfl
theorem ze66 : zerQ Try.prog 66 = some Value.nilFunc := by kernel_rfl
theorem sz67 : sizQ Try.prog 67 = some 1 := by kernel_rfl
theorem by67 : bytQ Try.prog 67 = some 8 := by kernel_rfl
theorem ag67 : aggQ Try.prog 67 = some false := by kernel_rfl
theorem iu67 : ((Try.prog).underlying 67).isSome = true := by kernel_rfl
theorem ze67 : zerQ Try.prog 67 = some Value.nilFunc := by kernel_rfl
theorem sz68 : sizQ Try.prog 68 = some 2 := by kernel_rfl
theorem by68 : bytQ Try.prog 68 = some 16 := by kernel_rfl
theorem ag68 : aggQ Try.prog 68 = some true := by kernel_rfl
theorem ar68 : arQ Try.prog 68 = some (2, 24) := by kernel_rfl
theorem iu68 : ((Try.prog).underlying 68).isSome = true := by kernel_rfl
theorem ze68 : zerQ Try.prog 68 = some (Value.agg { toList := [Value.int IntKind.u64 0, Value.int IntKind.u64 0] }) := by kernel_rfl
theorem sz69 : sizQ Try.prog 69 = some 2 := by kernel_rfl
theorem by69 : bytQ Try.prog 69 = some 16 := by kernel_rfl
theorem ag69 : aggQ Try.prog 69 = some true := by kernel_rfl
theorem ar69 : arQ Try.prog 69 = some (2, 24) := by kernel_rfl
theorem iu69 : ((Try.prog).underlying 69).isSome = true := by kernel_rfl
theorem ze69 : zerQ Try.prog 69 = some (Value.agg { toList := [Value.int IntKind.u64 0, Value.int IntKind.u64 0] }) := by kernel_rfl
theorem sz70 : sizQ Try.prog 70 = some 1 := by kernel_rfl
theorem by70 : bytQ Try.prog 70 = some 8 := by kernel_rfl
theorem ag70 : aggQ Try.prog 70 = some false := by kernel_rfl
theorem iu70 : ((Try.prog).underlying 70).isSome = true := by kernel_rfl
theorem ze70 : zerQ Try.prog 70 = some Value.nilFunc := by kernel_rfl
theorem sz71 : sizQ Try.prog 71 = some 1 := by kernel_rfl
theorem by71 : bytQ Try.prog 71 = some 8 := by kernel_rfl
theorem ag71 : aggQ Try.prog 71 = some false := by kernel_rfl
theorem iu71 : ((Try.prog).underlying 71).isSome = true := by kernel_rfl
theorem ze71 : zerQ Try.prog 71 = some Value.nilFunc := by kernel_rfl
theorem sz72 : sizQ Try.prog 72 = some 1 := by kernel_rfl
theorem by72 : bytQ Try.prog 72 = some 8 := by kernel_rfl
theorem ag72 : aggQ Try.prog 72 = some false := by kernel_rfl
theorem iu72 : ((Try.prog).underlying 72).isSome = true := by kernel_rfl
theorem ze72 : zerQ Try.prog 72 = some Value.nilFunc := by kernel_rfl
theorem sz73 : sizQ Try.prog 73 = some 2 := by kernel_rfl
theorem by73 : bytQ Try.prog 73 = some 16 := by kernel_rfl
theorem ag73 : aggQ Try.prog 73 = some true := by kernel_rfl
theorem ar73 : arQ Try.prog 73 = some (2, 24) := by kernel_rfl
theorem iu73 : ((Try.prog).underlying 73).isSome = true := by kernel_rfl
theorem ze73 : zerQ Try.prog 73 = some (Value.agg { toList := [Value.int IntKind.u64 0, Value.int IntKind.u64 0] }) := by kernel_rfl
theorem sz74 : sizQ Try.prog 74 = some 1 := by kernel_rfl
theorem by74 : bytQ Try.prog 74 = some 8 := by kernel_rfl
theorem ag74 : aggQ Try.prog 74 = some false := by kernel_rfl
theorem iu74 : ((Try.prog).underlying 74).isSome = true := by kernel_rfl
theorem ze74 : zerQ Try.prog 74 = some Value.nilFunc := by kernel_rfl
theorem sz75 : sizQ Try.prog 75 = some 1 := by kernel_rfl
theorem by75 : bytQ Try.prog 75 = some 8 := by kernel_rfl
theorem ag75 : aggQ Try.prog 75 = some false := by kernel_rfl
theorem iu75 : ((Try.prog).underlying 75).isSome = true := by kernel_rfl
theorem ze75 : zerQ Try.prog 75 = some Value.nilFunc := by kernel_rfl
theorem sz76 : sizQ Try.prog 76 = some 1 := by kernel_rfl
theorem by76 : bytQ Try.prog 76 = some 8 := by kernel_rfl
theorem ag76 : aggQ Try.prog 76 = some false := by kernel_rfl
theorem iu76 : ((Try.prog).underlying 76).isSome = true := by kernel_rfl
theorem ze76 : zerQ Try.prog 76 = some Value.nilFunc := by kernel_rfl
theorem sz77 : sizQ Try.prog 77 = some 1 := by kernel_rfl
theorem by77 : bytQ Try.prog 77 = some 8 := by kernel_rfl
theorem ag77 : aggQ Try.prog 77 = some false := by kernel_rfl
theorem iu77 : ((Try.prog).underlying 77).isSome = true := by kernel_rfl
theorem ze77 : zerQ Try.prog 77 = some Value.nilFunc := by kernel_rfl
theorem sz78 : sizQ Try.prog 78 = some 1 := by kernel_rfl
theorem by78 : bytQ Try.prog 78 = some 8 := by kernel_rfl
theorem ag78 : aggQ Try.prog 78 = some false := by kernel_rfl
theorem iu78 : ((Try.prog).underlying 78).isSome = true := by kernel_rfl
theorem ze78 : zerQ Try.prog 78 = some Value.nilFunc := by kernel_rfl
theorem sz79 : sizQ Try.prog 79 = some 1 := by kernel_rfl
theorem by79 : bytQ Try.prog 79 = some 0 := by kernel_rfl
theorem ag79 : aggQ Try.prog 79 = some false := by kernel_rfl
theorem iu79 : ((Try.prog).underlying 79).isSome = true := by kernel_rfl
theorem ze79 : zerQ Try.prog 79 = some
  (Value.tuple
    {
      toList :=
        [Value.agg
            {
              toList :=
                [Value.int IntKind.i64 0, Value.int IntKind.i64 0,
                  Value.int IntKind.i64 0, Value.int IntKind.i64 0,
                  Value.int IntKind.i64 0, Value.int IntKind.i64 0,
                  Value.int IntKind.i64 0] },
          Value.slice none 0 0,
          Value.agg { toList := [Value.int IntKind.u64 0, Value.int IntKind.u64 0] },
          Value.int IntKind.i64 0] }) := by kernel_rfl
theorem sz80 : sizQ Try.prog 80 = some 1 := by kernel_rfl
theorem by80 : bytQ Try.prog 80 = some 8 := by kernel_rfl
theorem ag80 : aggQ Try.prog 80 = some false := by kernel_rfl
theorem iu80 : ((Try.prog).underlying 80).isSome = true := by kernel_rfl
theorem ze80 : zerQ Try.prog 80 = some Value.nilFunc := by kernel_rfl
theorem sz81 : sizQ Try.prog 81 = some 1 := by kernel_rfl
theorem by81 : bytQ Try.prog 81 = some 8 := by kernel_rfl
theorem ag81 : aggQ Try.prog 81 = some false := by kernel_rfl
theorem iu81 : ((Try.prog).underlying 81).isSome = true := by kernel_rfl
theorem ze81 : zerQ Try.prog 81 = some Value.nilFunc := by kernel_rfl
theorem sz82 : sizQ Try.prog 82 = some 1 := by kernel_rfl
theorem by82 : bytQ Try.prog 82 = some 8 := by kernel_rfl
theorem ag82 : aggQ Try.prog 82 = some false := by kernel_rfl
theorem iu82 : ((Try.prog).underlying 82).isSome = true := by kernel_rfl
theorem ze82 : zerQ Try.prog 82 = some Value.nilFunc := by kernel_rfl
theorem sz83 : sizQ Try.prog 83 = some 20 := by kernel_rfl
theorem by83 : bytQ Try.prog 83 = some 160 := by kernel_rfl
theorem ag83 : aggQ Try.prog 83 = some true := by kernel_rfl
theorem ar83 : arQ Try.prog 83 = some (20, 3) := by kernel_rfl
theorem iu83 : ((Try.prog).underlying 83).isSome = true := by kernel_rfl
theorem ze83 : zerQ Try.prog 83 = some
  (Value.agg
    {
      toList :=
        [Value.int IntKind.i64 0, Value.int IntKind.i64 0, Value.int IntKind.i64 0,
          Value.int IntKind.i64 0, Value.int IntKind.i64 0, Value.int IntKind.i64 0,
          Value.int IntKind.i64 0, Value.int IntKind.i64 0, Value.int IntKind.i64 0,
          Value.int IntKind.i64 0, Value.int IntKind.i64 0, Value.int IntKind.i64 0,
          Value.int IntKind.i64 0, Value.int IntKind.i64 0, Value.int IntKind.i64 0,
          Value.int IntKind.i64 0, Value.int IntKind.i64 0, Value.int IntKind.i64 0,
          Value.int IntKind.i64 0, Value.int IntKind.i64 0] }) := by kernel_rfl
theorem sz84 : sizQ Try.prog 84 = some 1 := by kernel_rfl
theorem by84 : bytQ Try.prog 84 = some 8 := by kernel_rfl
theorem ag84 : aggQ Try.prog 84 = some false := by kernel_rfl
theorem iu84 : ((Try.prog).underlying 84).isSome = true := by kernel_rfl
theorem ze84 : zerQ Try.prog 84 = some Value.nilFunc := by kernel_rfl
theorem sl85 : slQ Try.prog 85 = some 4 := by kernel_rfl
theorem sz85 : sizQ Try.prog 85 = some 1 := by kernel_rfl
theorem by85 : bytQ Try.prog 85 = some 24 := by kernel_rfl
theorem ag85 : aggQ Try.prog 85 = some false := by kernel_rfl
theorem us85 : (Try.prog).underlying 85 = some (.slice 4) := by kernel_rfl
theorem iu85 : ((Try.prog).underlying 85).isSome = true := by kernel_rfl
theorem ze85 : zerQ Try.prog 85 = some (Value.slice none 0 0) := by kernel_rfl
theorem sl86 : slQ Try.prog 86 = some 57 := by kernel_rfl
theorem sz86 : sizQ Try.prog 86 = some 1 := by kernel_rfl
theorem by86 : bytQ Try.prog 86 = some 24 := by kernel_rfl
theorem ag86 : aggQ Try.prog 86 = some false := by kernel_rfl
theorem us86 : (Try.prog).underlying 86 = some (.slice 57) := by kernel_rfl
theorem iu86 : ((Try.prog).underlying 86).isSome = true := by kernel_rfl
theorem ze86 : zerQ Try.prog 86 = some (Value.slice none 0 0) := by kernel_rfl
theorem sl87 : slQ Try.prog 87 = some 100 := by kernel_rfl
theorem sz87 : sizQ Try.prog 87 = some 1 := by kernel_rfl
theorem by87 : bytQ Try.prog 87 = some 24 := by kernel_rfl
theorem ag87 : aggQ Try.prog 87 = some false := by kernel_rfl
theorem us87 : (Try.prog).underlying 87 = some (.slice 100) := by kernel_rfl
theorem iu87 : ((Try.prog).underlying 87).isSome = true := by kernel_rfl
theorem ze87 : zerQ Try.prog 87 = some (Value.slice none 0 0) := by kernel_rfl
theorem sz88 : sizQ Try.prog 88 = some 0 := by kernel_rfl
theorem by88 : bytQ Try.prog 88 = some 0 := by kernel_rfl
theorem ag88 : aggQ Try.prog 88 = some true := by kernel_rfl
theorem iu88 : ((Try.prog).underlying 88).isSome = true := by kernel_rfl
theorem ze88 : zerQ Try.prog 88 = some (Value.agg { toList := [] }) := by kernel_rfl
theorem sz89 : sizQ Try.prog 89 = some 0 := by kernel_rfl
theorem by89 : bytQ Try.prog 89 = some 0 := by kernel_rfl
theorem ag89 : aggQ Try.prog 89 = some true := by kernel_rfl
theorem iu89 : ((Try.prog).underlying 89).isSome = true := by kernel_rfl
theorem ze89 : zerQ Try.prog 89 = some (Value.agg { toList := [] }) := by kernel_rfl
theorem sz90 : sizQ Try.prog 90 = some 0 := by kernel_rfl
theorem by90 : bytQ Try.prog 90 = some 0 := by kernel_rfl
theorem ag90 : aggQ Try.prog 90 = some true := by kernel_rfl
theorem iu90 : ((Try.prog).underlying 90).isSome = true := by kernel_rfl
theorem ze90 : zerQ Try.prog 90 = some (Value.agg { toList := [] }) := by kernel_rfl
theorem sz91 : sizQ Try.prog 91 = some 1 := by kernel_rfl
theorem by91 : bytQ Try.prog 91 = some 8 := by kernel_rfl
theorem ag91 : aggQ Try.prog 91 = some true := by kernel_rfl
theorem iu91 : ((Try.prog).underlying 91).isSome = true := by kernel_rfl
theorem fl91_0 : fldQ Try.prog 91 0 = some (0, 89) := by kernel_rfl
theorem fl91_1 : fldQ Try.prog 91 1 = some (0, 90) := by kernel_rfl
theorem fl91_2 : fldQ Try.prog 91 2 = some (0, 2) := by kernel_rfl
theorem pl91 : plQ Try.prog 91 = some [(0, 0), (0, 0), (0, 1)] := by kernel_rfl
theorem ze91 : zerQ Try.prog 91 = some (Value.agg { toList := [Value.int IntKind.i64 0] }) := by kernel_rfl
theorem sz92 : sizQ Try.prog 92 = some 1 := by kernel_rfl
theorem by92 : bytQ Try.prog 92 = some 8 := by kernel_rfl
theorem ag92 : aggQ Try.prog 92 = some true := by kernel_rfl
theorem iu92 : ((Try.prog).underlying 92).isSome = true := by kernel_rfl
theorem fl92_0 : fldQ Try.prog 92 0 = some (0, 89) := by kernel_rfl
theorem fl92_1 : fldQ Try.prog 92 1 = some (0, 90) := by kernel_rfl
theorem fl92_2 : fldQ Try.prog 92 2 = some (0, 2) := by kernel_rfl
theorem pl92 : plQ Try.prog 92 = some [(0, 0), (0, 0), (0, 1)] := by kernel_rfl
theorem ze92 : zerQ Try.prog 92 = some (Value.agg { toList := [Value.int IntKind.i64 0] }) := by kernel_rfl
theorem sz93 : sizQ Try.prog 93 = some 30 := by kernel_rfl
theorem by93 : bytQ Try.prog 93 = some 288 := by kernel_rfl
theorem ag93 : aggQ Try.prog 93 = some true := by kernel_rfl
theorem iu93 : ((Try.prog).underlying 93).isSome = true := by kernel_rfl
theorem fl93_0 : fldQ Try.prog 93 0 = some (0, 26) := by kernel_rfl
theorem fl93_1 : fldQ Try.prog 93 1 = some (26, 86) := by kernel_rfl
theorem fl93_2 : fldQ Try.prog 93 2 = some (27, 85) := by kernel_rfl
theorem fl93_3 : fldQ Try.prog 93 3 = some (28, 87) := by kernel_rfl
theorem fl93_4 : fldQ Try.prog 93 4 = some (29, 92) := by kernel_rfl
theorem pl93 : plQ Try.prog 93 = some [(0, 26), (26, 1), (27, 1), (28, 1), (29, 1)] := by kernel_rfl
theorem ze93 : zerQ Try.prog 93 = some
  (Value.agg
    {
      toList :=
        [Value.int IntKind.i64 0, Value.int IntKind.i64 0, Value.int IntKind.i64 0,
          Value.int IntKind.i64 0, Value.int IntKind.i64 0, Value.int IntKind.i64 0,
          Value.int IntKind.i64 0, Value.int IntKind.i64 0, Value.int IntKind.i64 0,
          Value.int IntKind.i64 0, Value.int IntKind.i64 0, Value.int IntKind.i64 0,
          Value.int IntKind.i64 0, Value.int IntKind.i64 0, Value.int IntKind.i64 0,
          Value.int IntKind.i64 0, Value.int IntKind.i64 0, Value.int IntKind.i64 0,
          Value.int IntKind.i64 0, Value.int IntKind.i64 0, Value.int IntKind.i64 0,
          Value.int IntKind.i64 0, Value.int IntKind.i64 0, Value.int IntKind.i64 0,
          Value.int IntKind.i64 0, Value.int IntKind.u64 0, Value.slice none 0 0,
          Value.slice none 0 0, Value.slice none 0 0, Value.int IntKind.i64 0] }) := by kernel_rfl
theorem sz94 : sizQ Try.prog 94 = some 30 := by kernel_rfl
theorem by94 : bytQ Try.prog 94 = some 288 := by kernel_rfl
theorem ag94 : aggQ Try.prog 94 = some true := by kernel_rfl
theorem iu94 : ((Try.prog).underlying 94).isSome = true := by kernel_rfl
theorem fl94_0 : fldQ Try.prog 94 0 = some (0, 26) := by kernel_rfl
theorem fl94_1 : fldQ Try.prog 94 1 = some (26, 86) := by kernel_rfl
theorem fl94_2 : fldQ Try.prog 94 2 = some (27, 85) := by kernel_rfl
theorem fl94_3 : fldQ Try.prog 94 3 = some (28, 87) := by kernel_rfl
theorem fl94_4 : fldQ Try.prog 94 4 = some (29, 92) := by kernel_rfl
theorem pl94 : plQ Try.prog 94 = some [(0, 26), (26, 1), (27, 1), (28, 1), (29, 1)] := by kernel_rfl
theorem ze94 : zerQ Try.prog 94 = some
  (Value.agg
    {
      toList :=
        [Value.int IntKind.i64 0, Value.int IntKind.i64 0, Value.int IntKind.i64 0,
          Value.int IntKind.i64 0, Value.int IntKind.i64 0, Value.int IntKind.i64 0,
          Value.int IntKind.i64 0, Value.int IntKind.i64 0, Value.int IntKind.i64 0,
          Value.int IntKind.i64 0, Value.int IntKind.i64 0, Value.int IntKind.i64 0,
          Value.int IntKind.i64 0, Value.int IntKind.i64 0, Value.int IntKind.i64 0,
          Value.int IntKind.i64 0, Value.int IntKind.i64 0, Value.int IntKind.i64 0,
          Value.int IntKind.i64 0, Value.int IntKind.i64 0, Value.int IntKind.i64 0,
          Value.int IntKind.i64 0, Value.int IntKind.i64 0, Value.int IntKind.i64 0,
          Value.int IntKind.i64 0, Value.int IntKind.u64 0, Value.slice none 0 0,
          Value.slice none 0 0, Value.slice none 0 0, Value.int IntKind.i64 0] }) := by kernel_rfl
theorem sz95 : sizQ Try.prog 95 = some 1 := by kernel_rfl
theorem by95 : bytQ Try.prog 95 = some 8 := by kernel_rfl
theorem ag95 : aggQ Try.prog 95 = some false := by kernel_rfl
theorem iu95 : ((Try.prog).underlying 95).isSome = true := by kernel_rfl
theorem ze95 : zerQ Try.prog 95 = some Value.nilFunc := by kernel_rfl
theorem sz96 : sizQ Try.prog 96 = some 1 := by kernel_rfl
theorem by96 : bytQ Try.prog 96 = some 8 := by kernel_rfl
theorem ag96 : aggQ Try.prog 96 = some false := by kernel_rfl
theorem iu96 : ((Try.prog).underlying 96).isSome = true := by kernel_rfl
theorem ze96 : zerQ Try.prog 96 = some Value.nilFunc := by kernel_rfl
theorem sz97 : sizQ Try.prog 97 = some 1 := by kernel_rfl
theorem by97 : bytQ Try.prog 97 = some 8 := by kernel_rfl
theorem ag97 : aggQ Try.prog 97 = some false := by kernel_rfl
theorem iu97 : ((Try.prog).underlying 97).isSome = true := by kernel_rfl
theorem ze97 : zerQ Try.prog 97 = some Value.nilFunc := by kernel_rfl
theorem sz98 : sizQ Try.prog 98 = some 1 := by kernel_rfl
theorem by98 : bytQ Try.prog 98 = some 8 := by kernel_rfl
theorem ag98 : aggQ Try.prog 98 = some false := by kernel_rfl
theorem iu98 : ((Try.prog).underlying 98).isSome = true := by kernel_rfl
theorem ze98 : zerQ Try.prog 98 = some Value.nilFunc := by kernel_rfl
theorem sz99 : sizQ Try.prog 99 = some 4 := by kernel_rfl
theorem by99 : bytQ Try.prog 99 = some 32 := by kernel_rfl
theorem ag99 : aggQ Try.prog 99 = some true := by kernel_rfl
theorem iu99 : ((Try.prog).underlying 99).isSome = true := by kernel_rfl
theorem fl99_0 : fldQ Try.prog 99 0 = some (0, 3) := by kernel_rfl
theorem fl99_1 : fldQ Try.prog 99 1 = some (1, 3) := by kernel_rfl
theorem fl99_2 : fldQ Try.prog 99 2 = some (2, 2) := by kernel_rfl
theorem fl99_3 : fldQ Try.prog 99 3 = some (3, 2) := by kernel_rfl
theorem pl99 : plQ Try.prog 99 = some [(0, 1), (1, 1), (2, 1), (3, 1)] := by kernel_rfl
theorem ze99 : zerQ Try.prog 99 = some
  (Value.agg
    {
      toList :=
        [Value.int IntKind.i64 0, Value.int IntKind.i64 0, Value.int IntKind.i64 0,
          Value.int IntKind.i64 0] }) := by kernel_rfl
theorem sz100 : sizQ Try.prog 100 = some 4 := by kernel_rfl
theorem by100 : bytQ Try.prog 100 = some 32 := by kernel_rfl
theorem ag100 : aggQ Try.prog 100 = some true := by kernel_rfl
theorem iu100 : ((Try.prog).underlying 100).isSome = true := by kernel_rfl
theorem fl100_0 : fldQ Try.prog 100 0 = some (0, 3) := by kernel_rfl
theorem fl100_1 : fldQ Try.prog 100 1 = some (1, 3) := by kernel_rfl
theorem fl100_2 : fldQ Try.prog 100 2 = some (2, 2) := by kernel_rfl
theorem fl100_3 : fldQ Try.prog 100 3 = some (3, 2) := by kernel_rfl
theorem pl100 : plQ Try.prog 100 = some [(0, 1), (1, 1), (2, 1), (3, 1)] := by kernel_rfl
theorem ze100 : zerQ Try.prog 100 = some
  (Value.agg
    {
      toList :=
        [Value.int IntKind.i64 0, Value.int IntKind.i64 0, Value.int IntKind.i64 0,
          Value.int IntKind.i64 0] }) := by kernel_rfl
theorem sz101 : sizQ Try.prog 101 = some 1 := by kernel_rfl
theorem by101 : bytQ Try.prog 101 = some 8 := by kernel_rfl
theorem ag101 : aggQ Try.prog 101 = some false := by kernel_rfl
theorem iu101 : ((Try.prog).underlying 101).isSome = true := by kernel_rfl
theorem ze101 : zerQ Try.prog 101 = some Value.nilFunc := by kernel_rfl
theorem sz102 : sizQ Try.prog 102 = some 1 := by kernel_rfl
theorem by102 : bytQ Try.prog 102 = some 8 := by kernel_rfl
theorem ag102 : aggQ Try.prog 102 = some false := by kernel_rfl
theorem iu102 : ((Try.prog).underlying 102).isSome = true := by kernel_rfl
theorem ze102 : zerQ Try.prog 102 = some Value.nilFunc := by kernel_rfl
theorem sl103 : slQ Try.prog 103 = some 106 := by kernel_rfl
theorem sz103 : sizQ Try.prog 103 = some 1 := by kernel_rfl
theorem by103 : bytQ Try.prog 103 = some 24 := by kernel_rfl
theorem ag103 : aggQ Try.prog 103 = some false := by kernel_rfl
theorem us103 : (Try.prog).underlying 103 = some (.slice 106) := by kernel_rfl
theorem iu103 : ((Try.prog).underlying 103).isSome = true := by kernel_rfl
theorem ze103 : zerQ Try.prog 103 = some (Value.slice none 0 0) := by kernel_rfl
theorem sz104 : sizQ Try.prog 104 = some 29 := by kernel_rfl
theorem by104 : bytQ Try.prog 104 = some 280 := by kernel_rfl
theorem ag104 : aggQ Try.prog 104 = some true := by kernel_rfl
theorem iu104 : ((Try.prog).underlying 104).isSome = true := by kernel_rfl
theorem fl104_0 : fldQ Try.prog 104 0 = some (0, 26) := by kernel_rfl
theorem fl104_1 : fldQ Try.prog 104 1 = some (26, 103) := by kernel_rfl
theorem fl104_2 : fldQ Try.prog 104 2 = some (27, 85) := by kernel_rfl
theorem fl104_3 : fldQ Try.prog 104 3 = some (28, 87) := by kernel_rfl
theorem pl104 : plQ Try.prog 104 = some [(0, 26), (26, 1), (27, 1), (28, 1)] := by kernel_rfl
theorem ze104 : zerQ Try.prog 104 = some
  (Value.agg
    {
      toList :=
        [Value.int IntKind.i64 0, Value.int IntKind.i64 0, Value.int IntKind.i64 0,
          Value.int IntKind.i64 0, Value.int IntKind.i64 0, Value.int IntKind.i64 0,
          Value.int IntKind.i64 0, Value.int IntKind.i64 0, Value.int IntKind.i64 0,
          Value.int IntKind.i64 0, Value.int IntKind.i64 0, Value.int IntKind.i64 0,
          Value.int IntKind.i64 0, Value.int IntKind.i64 0, Value.int IntKind.i64 0,
          Value.int IntKind.i64 0, Value.int IntKind.i64 0, Value.int IntKind.i64 0,
          Value.int IntKind.i64 0, Value.int IntKind.i64 0, Value.int IntKind.i64 0,
          Value.int IntKind.i64 0, Value.int IntKind.i64 0, Value.int IntKind.i64 0,
          Value.int IntKind.i64 0, Value.int IntKind.u64 0, Value.slice none 0 0,
          Value.slice none 0 0, Value.slice none 0 0] }) := by kernel_rfl
theorem sz105 : sizQ Try.prog 105 = some 29 := by kernel_rfl
theorem by105 : bytQ Try.prog 105 = some 280 := by kernel_rfl
theorem ag105 : aggQ Try.prog 105 = some true := by kernel_rfl
theorem iu105 : ((Try.prog).underlying 105).isSome = true := by kernel_rfl
theorem fl105_0 : fldQ Try.prog 105 0 = some (0, 26) := by kernel_rfl
theorem fl105_1 : fldQ Try.prog 105 1 = some (26, 103) := by kernel_rfl
theorem fl105_2 : fldQ Try.prog 105 2 = some (27, 85) := by kernel_rfl
theorem fl105_3 : fldQ Try.prog 105 3 = some (28, 87) := by kernel_rfl
theorem pl105 : plQ Try.prog 105 = some [(0, 26), (26, 1), (27, 1), (28, 1)] := by kernel_rfl
theorem ze105 : zerQ Try.prog 105 = some
  (Value.agg
    {
      toList :=
        [Value.int IntKind.i64 0, Value.int IntKind.i64 0, Value.int IntKind.i64 0,
          Value.int IntKind.i64 0, Value.int IntKind.i64 0, Value.int IntKind.i64 0,
          Value.int IntKind.i64 0, Value.int IntKind.i64 0, Value.int IntKind.i64 0,
          Value.int IntKind.i64 0, Value.int IntKind.i64 0, Value.int IntKind.i64 0,
          Value.int IntKind.i64 0, Value.int IntKind.i64 0, Value.int IntKind.i64 0,
          Value.int IntKind.i64 0, Value.int IntKind.i64 0, Value.int IntKind.i64 0,
          Value.int IntKind.i64 0, Value.int IntKind.i64 0, Value.int IntKind.i64 0,
          Value.int IntKind.i64 0, Value.int IntKind.i64 0, Value.int IntKind.i64 0,
          Value.int IntKind.i64 0, Value.int IntKind.u64 0, Value.slice none 0 0,
          Value.slice none 0 0, Value.slice none 0 0] }) := by kernel_rfl
theorem sz106 : sizQ Try.prog 106 = some 1 := by kernel_rfl
theorem by106 : bytQ Try.prog 106 = some 8 := by kernel_rfl
theorem ag106 : aggQ Try.prog 106 = some false := by kernel_rfl
theorem pt106 : ptrQ Try.prog 106 = true := by kernel_rfl
theorem iu106 : ((Try.prog).underlying 106).isSome = true := by kernel_rfl
theorem ze106 : zerQ Try.prog 106 = some (Value.pointer none) := by kernel_rfl
theorem sz107 : sizQ Try.prog 107 = some 1 := by kernel_rfl
theorem by107 : bytQ Try.prog 107 = some 8 := by kernel_rfl
theorem ag107 : aggQ Try.prog 107 = some false := by kernel_rfl
theorem iu107 : ((Try.prog).underlying 107).isSome = true := by kernel_rfl
theorem ze107 : zerQ Try.prog 107 = some Value.nilFunc := by kernel_rfl
theorem sz108 : sizQ Try.prog 108 = some 4 := by kernel_rfl
theorem by108 : bytQ Try.prog 108 = some 32 := by kernel_rfl
theorem ag108 : aggQ Try.prog 108 = some true := by kernel_rfl
theorem iu108 : ((Try.prog).underlying 108).isSome = true := by kernel_rfl
theorem fl108_0 : fldQ Try.prog 108 0 = some (0, 24) := by kernel_rfl
theorem fl108_1 : fldQ Try.prog 108 1 = some (1, 3) := by kernel_rfl
theorem fl108_2 : fldQ Try.prog 108 2 = some (2, 3) := by kernel_rfl
theorem fl108_3 : fldQ Try.prog 108 3 = some (3, 2) := by kernel_rfl
theorem pl108 : plQ Try.prog 108 = some [(0, 1), (1, 1), (2, 1), (3, 1)] := by kernel_rfl
theorem ze108 : zerQ Try.prog 108 = some
  (Value.agg
    {
      toList :=
        [Value.int IntKind.u64 0, Value.int IntKind.i64 0, Value.int IntKind.i64 0,
          Value.int IntKind.i64 0] }) := by kernel_rfl
theorem sz109 : sizQ Try.prog 109 = some 4 := by kernel_rfl
theorem by109 : bytQ Try.prog 109 = some 32 := by kernel_rfl
theorem ag109 : aggQ Try.prog 109 = some true := by kernel_rfl
theorem iu109 : ((Try.prog).underlying 109).isSome = true := by kernel_rfl
theorem fl109_0 : fldQ Try.prog 109 0 = some (0, 24) := by kernel_rfl
theorem fl109_1 : fldQ Try.prog 109 1 = some (1, 3) := by kernel_rfl
theorem fl109_2 : fldQ Try.prog 109 2 = some (2, 3) := by kernel_rfl
theorem fl109_3 : fldQ Try.prog 109 3 = some (3, 2) := by kernel_rfl
theorem pl109 : plQ Try.prog 109 = some [(0, 1), (1, 1), (2, 1), (3, 1)] := by kernel_rfl
theorem ze109 : zerQ Try.prog 109 = some
  (Value.agg
    {
      toList :=
        [Value.int IntKind.u64 0, Value.int IntKind.i64 0, Value.int IntKind.i64 0,
          Value.int IntKind.i64 0] }) := by kernel_rfl
theorem sz110 : sizQ Try.prog 110 = some 1 := by kernel_rfl
theorem by110 : bytQ Try.prog 110 = some 8 := by kernel_rfl
theorem ag110 : aggQ Try.prog 110 = some false := by kernel_rfl
theorem iu110 : ((Try.prog).underlying 110).isSome = true := by kernel_rfl
theorem ze110 : zerQ Try.prog 110 = some Value.nilFunc := by kernel_rfl
theorem sz111 : sizQ Try.prog 111 = some 1 := by kernel_rfl
theorem by111 : bytQ Try.prog 111 = some 8 := by kernel_rfl
theorem ag111 : aggQ Try.prog 111 = some false := by kernel_rfl
theorem iu111 : ((Try.prog).underlying 111).isSome = true := by kernel_rfl
theorem ze111 : zerQ Try.prog 111 = some Value.nilFunc := by kernel_rfl
theorem sz112 : sizQ Try.prog 112 = some 1 := by kernel_rfl
theorem by112 : bytQ Try.prog 112 = some 8 := by kernel_rfl
theorem ag112 : aggQ Try.prog 112 = some false := by kernel_rfl
theorem iu112 : ((Try.prog).underlying 112).isSome = true := by kernel_rfl
theorem ze112 : zerQ Try.prog 112 = some Value.nilFunc := by kernel_rfl
theorem sz113 : sizQ Try.prog 113 = some 1 := by kernel_rfl
theorem by113 : bytQ Try.prog 113 = some 8 := by kernel_rfl
theorem ag113 : aggQ Try.prog 113 = some false := by kernel_rfl
theorem pt113 : ptrQ Try.prog 113 = true := by kernel_rfl
theorem iu113 : ((Try.prog).underlying 113).isSome = true := by kernel_rfl
theorem ze113 : zerQ Try.prog 113 = some (Value.pointer none) := by kernel_rfl
theorem sz114 : sizQ Try.prog 114 = some 1 := by kernel_rfl
theorem by114 : bytQ Try.prog 114 = some 8 := by kernel_rfl
theorem ag114 : aggQ Try.prog 114 = some false := by kernel_rfl
theorem iu114 : ((Try.prog).underlying 114).isSome = true := by kernel_rfl
theorem ze114 : zerQ Try.prog 114 = some Value.nilFunc := by kernel_rfl
theorem sl115 : slQ Try.prog 115 = some 118 := by kernel_rfl
theorem sz115 : sizQ Try.prog 115 = some 1 := by kernel_rfl
theorem by115 : bytQ Try.prog 115 = some 24 := by kernel_rfl
theorem ag115 : aggQ Try.prog 115 = some false := by kernel_rfl
theorem us115 : (Try.prog).underlying 115 = some (.slice 118) := by kernel_rfl
theorem iu115 : ((Try.prog).underlying 115).isSome = true := by kernel_rfl
theorem ze115 : zerQ Try.prog 115 = some (Value.slice none 0 0) := by kernel_rfl
theorem sz116 : sizQ Try.prog 116 = some 30 := by kernel_rfl
theorem by116 : bytQ Try.prog 116 = some 272 := by kernel_rfl
theorem ag116 : aggQ Try.prog 116 = some true := by kernel_rfl
theorem iu116 : ((Try.prog).underlying 116).isSome = true := by kernel_rfl
theorem fl116_0 : fldQ Try.prog 116 0 = some (0, 26) := by kernel_rfl
theorem fl116_1 : fldQ Try.prog 116 1 = some (26, 113) := by kernel_rfl
theorem fl116_2 : fldQ Try.prog 116 2 = some (27, 115) := by kernel_rfl
theorem fl116_3 : fldQ Try.prog 116 3 = some (28, 115) := by kernel_rfl
theorem fl116_4 : fldQ Try.prog 116 4 = some (29, 92) := by kernel_rfl
theorem pl116 : plQ Try.prog 116 = some [(0, 26), (26, 1), (27, 1), (28, 1), (29, 1)] := by kernel_rfl
theorem ze116 : zerQ Try.prog 116 = some
  (Value.agg
    {
      toList :=
        [Value.int IntKind.i64 0, Value.int IntKind.i64 0, Value.int IntKind.i64 0,
          Value.int IntKind.i64 0, Value.int IntKind.i64 0, Value.int IntKind.i64 0,
          Value.int IntKind.i64 0, Value.int IntKind.i64 0, Value.int IntKind.i64 0,
          Value.int IntKind.i64 0, Value.int IntKind.i64 0, Value.int IntKind.i64 0,
          Value.int IntKind.i64 0, Value.int IntKind.i64 0, Value.int IntKind.i64 0,
          Value.int IntKind.i64 0, Value.int IntKind.i64 0, Value.int IntKind.i64 0,
          Value.int IntKind.i64 0, Value.int IntKind.i64 0, Value.int IntKind.i64 0,
          Value.int IntKind.i64 0, Value.int IntKind.i64 0, Value.int IntKind.i64 0,
          Value.int IntKind.i64 0, Value.int IntKind.u64 0, Value.pointer none,
          Value.slice none 0 0, Value.slice none 0 0, Value.int IntKind.i64 0] }) := by kernel_rfl
theorem sz117 : sizQ Try.prog 117 = some 30 := by kernel_rfl
theorem by117 : bytQ Try.prog 117 = some 272 := by kernel_rfl
theorem ag117 : aggQ Try.prog 117 = some true := by kernel_rfl
theorem iu117 : ((Try.prog).underlying 117).isSome = true := by kernel_rfl
theorem fl117_0 : fldQ Try.prog 117 0 = some (0, 26) := by kernel_rfl
theorem fl117_1 : fldQ Try.prog 117 1 = some (26, 113) := by kernel_rfl
theorem fl117_2 : fldQ Try.prog 117 2 = some (27, 115) := by kernel_rfl
theorem fl117_3 : fldQ Try.prog 117 3 = some (28, 115) := by kernel_rfl
theorem fl117_4 : fldQ Try.prog 117 4 = some (29, 92) := by kernel_rfl
theorem pl117 : plQ Try.prog 117 = some [(0, 26), (26, 1), (27, 1), (28, 1), (29, 1)] := by kernel_rfl
theorem ze117 : zerQ Try.prog 117 = some
  (Value.agg
    {
      toList :=
        [Value.int IntKind.i64 0, Value.int IntKind.i64 0, Value.int IntKind.i64 0,
          Value.int IntKind.i64 0, Value.int IntKind.i64 0, Value.int IntKind.i64 0,
          Value.int IntKind.i64 0, Value.int IntKind.i64 0, Value.int IntKind.i64 0,
          Value.int IntKind.i64 0, Value.int IntKind.i64 0, Value.int IntKind.i64 0,
          Value.int IntKind.i64 0, Value.int IntKind.i64 0, Value.int IntKind.i64 0,
          Value.int IntKind.i64 0, Value.int IntKind.i64 0, Value.int IntKind.i64 0,
          Value.int IntKind.i64 0, Value.int IntKind.i64 0, Value.int IntKind.i64 0,
          Value.int IntKind.i64 0, Value.int IntKind.i64 0, Value.int IntKind.i64 0,
          Value.int IntKind.i64 0, Value.int IntKind.u64 0, Value.pointer none,
          Value.slice none 0 0, Value.slice none 0 0, Value.int IntKind.i64 0] }) := by kernel_rfl
theorem sz118 : sizQ Try.prog 118 = some 1 := by kernel_rfl
theorem by118 : bytQ Try.prog 118 = some 8 := by kernel_rfl
theorem ag118 : aggQ Try.prog 118 = some false := by kernel_rfl
theorem pt118 : ptrQ Try.prog 118 = true := by kernel_rfl
theorem iu118 : ((Try.prog).underlying 118).isSome = true := by kernel_rfl
theorem ze118 : zerQ Try.prog 118 = some (Value.pointer none) := by kernel_rfl
theorem sz119 : sizQ Try.prog 119 = some 1 := by kernel_rfl
theorem by119 : bytQ Try.prog 119 = some 8 := by kernel_rfl
theorem ag119 : aggQ Try.prog 119 = some false := by kernel_rfl
theorem iu119 : ((Try.prog).underlying 119).isSome = true := by kernel_rfl
theorem ze119 : zerQ Try.prog 119 = some Value.nilFunc := by kernel_rfl
theorem sz120 : sizQ Try.prog 120 = some 4 := by kernel_rfl
theorem by120 : bytQ Try.prog 120 = some 32 := by kernel_rfl
theorem ag120 : aggQ Try.prog 120 = some true := by kernel_rfl
theorem iu120 : ((Try.prog).underlying 120).isSome = true := by kernel_rfl
theorem fl120_0 : fldQ Try.prog 120 0 = some (0, 24) := by kernel_rfl
theorem fl120_1 : fldQ Try.prog 120 1 = some (1, 3) := by kernel_rfl
theorem fl120_2 : fldQ Try.prog 120 2 = some (2, 3) := by kernel_rfl
theorem fl120_3 : fldQ Try.prog 120 3 = some (3, 92) := by kernel_rfl
theorem pl120 : plQ Try.prog 120 = some [(0, 1), (1, 1), (2, 1), (3, 1)] := by kernel_rfl
theorem ze120 : zerQ Try.prog 120 = some
  (Value.agg
    {
      toList :=
        [Value.int IntKind.u64 0, Value.int IntKind.i64 0, Value.int IntKind.i64 0,
          Value.int IntKind.i64 0] }) := by kernel_rfl
theorem sz121 : sizQ Try.prog 121 = some 4 := by kernel_rfl
theorem by121 : bytQ Try.prog 121 = some 32 := by kernel_rfl
theorem ag121 : aggQ Try.prog 121 = some true := by kernel_rfl
theorem iu121 : ((Try.prog).underlying 121).isSome = true := by kernel_rfl
theorem fl121_0 : fldQ Try.prog 121 0 = some (0, 24) := by kernel_rfl
theorem fl121_1 : fldQ Try.prog 121 1 = some (1, 3) := by kernel_rfl
theorem fl121_2 : fldQ Try.prog 121 2 = some (2, 3) := by kernel_rfl
theorem fl121_3 : fldQ Try.prog 121 3 = some (3, 92) := by kernel_rfl
theorem pl121 : plQ Try.prog 121 = some [(0, 1), (1, 1), (2, 1), (3, 1)] := by kernel_rfl
theorem ze121 : zerQ Try.prog 121 = some
  (Value.agg
    {
      toList :=
        [Value.int IntKind.u64 0, Value.int IntKind.i64 0, Value.int IntKind.i64 0,
          Value.int IntKind.i64 0] }) := by kernel_rfl
theorem sz122 : sizQ Try.prog 122 = some 1 := by kernel_rfl
theorem by122 : bytQ Try.prog 122 = some 8 := by kernel_rfl
theorem ag122 : aggQ Try.prog 122 = some false := by kernel_rfl
theorem iu122 : ((Try.prog).underlying 122).isSome = true := by kernel_rfl
theorem ze122 : zerQ Try.prog 122 = some Value.nilFunc := by kernel_rfl
theorem sz123 : sizQ Try.prog 123 = some 1 := by kernel_rfl
theorem by123 : bytQ Try.prog 123 = some 0 := by kernel_rfl
theorem ag123 : aggQ Try.prog 123 = some false := by kernel_rfl
theorem iu123 : ((Try.prog).underlying 123).isSome = true := by kernel_rfl
theorem ze123 : zerQ Try.prog 123 = some
  (Value.tuple
    {
      toList :=
        [Value.agg { toList := [Value.int IntKind.u64 0, Value.int IntKind.u64 0] },
          Value.int IntKind.i64 0] }) := by kernel_rfl
theorem sz124 : sizQ Try.prog 124 = some 1 := by kernel_rfl
theorem by124 : bytQ Try.prog 124 = some 8 := by kernel_rfl
theorem ag124 : aggQ Try.prog 124 = some false := by kernel_rfl
theorem iu124 : ((Try.prog).underlying 124).isSome = true := by kernel_rfl
theorem ze124 : zerQ Try.prog 124 = some Value.nilFunc := by kernel_rfl
theorem sz125 : sizQ Try.prog 125 = some 1 := by kernel_rfl
theorem by125 : bytQ Try.prog 125 = some 8 := by kernel_rfl
theorem ag125 : aggQ Try.prog 125 = some false := by kernel_rfl
theorem iu125 : ((Try.prog).underlying 125).isSome = true := by kernel_rfl
theorem ze125 : zerQ Try.prog 125 = some Value.nilFunc := by kernel_rfl
theorem sz126 : sizQ Try.prog 126 = some 1 := by kernel_rfl
theorem by126 : bytQ Try.prog 126 = some 8 := by kernel_rfl
theorem ag126 : aggQ Try.prog 126 = some false := by kernel_rfl
theorem iu126 : ((Try.prog).underlying 126).isSome = true := by kernel_rfl
theorem ze126 : zerQ Try.prog 126 = some Value.nilFunc := by kernel_rfl
theorem sz127 : sizQ Try.prog 127 = some 1 := by kernel_rfl
theorem by127 : bytQ Try.prog 127 = some 8 := by kernel_rfl
theorem ag127 : aggQ Try.prog 127 = some false := by kernel_rfl
theorem iu127 : ((Try.prog).underlying 127).isSome = true := by kernel_rfl
theorem ze127 : zerQ Try.prog 127 = some Value.nilFunc := by kernel_rfl
theorem sz128 : sizQ Try.prog 128 = some 1 := by kernel_rfl
theorem by128 : bytQ Try.prog 128 = some 8 := by kernel_rfl
theorem ag128 : aggQ Try.prog 128 = some false := by kernel_rfl
theorem iu128 : ((Try.prog).underlying 128).isSome = true := by kernel_rfl
theorem ze128 : zerQ Try.prog 128 = some Value.nilFunc := by kernel_rfl
theorem sz129 : sizQ Try.prog 129 = some 1 := by kernel_rfl
theorem by129 : bytQ Try.prog 129 = some 8 := by kernel_rfl
theorem ag129 : aggQ Try.prog 129 = some false := by kernel_rfl
theorem iu129 : ((Try.prog).underlying 129).isSome = true := by kernel_rfl
theorem ze129 : zerQ Try.prog 129 = some Value.nilFunc := by kernel_rfl
theorem sz130 : sizQ Try.prog 130 = some 1 := by kernel_rfl
theorem by130 : bytQ Try.prog 130 = some 8 := by kernel_rfl
theorem ag130 : aggQ Try.prog 130 = some false := by kernel_rfl
theorem iu130 : ((Try.prog).underlying 130).isSome = true := by kernel_rfl
theorem ze130 : zerQ Try.prog 130 = some Value.nilFunc := by kernel_rfl
theorem sz131 : sizQ Try.prog 131 = some 1 := by kernel_rfl
theorem by131 : bytQ Try.prog 131 = some 8 := by kernel_rfl
theorem ag131 : aggQ Try.prog 131 = some false := by kernel_rfl
theorem iu131 : ((Try.prog).underlying 131).isSome = true := by kernel_rfl
theorem ze131 : zerQ Try.prog 131 = some Value.nilFunc := by kernel_rfl
theorem sz132 : sizQ Try.prog 132 = some 1 := by kernel_rfl
theorem by132 : bytQ Try.prog 132 = some 8 := by kernel_rfl
theorem ag132 : aggQ Try.prog 132 = some false := by kernel_rfl
theorem iu132 : ((Try.prog).underlying 132).isSome = true := by kernel_rfl
theorem ze132 : zerQ Try.prog 132 = some Value.nilFunc := by kernel_rfl
theorem sz133 : sizQ Try.prog 133 = some 1 := by kernel_rfl
theorem by133 : bytQ Try.prog 133 = some 8 := by kernel_rfl
theorem ag133 : aggQ Try.prog 133 = some false := by kernel_rfl
theorem iu133 : ((Try.prog).underlying 133).isSome = true := by kernel_rfl
theorem ze133 : zerQ Try.prog 133 = some Value.nilFunc := by kernel_rfl
theorem sz134 : sizQ Try.prog 134 = some 1 := by kernel_rfl
theorem by134 : bytQ Try.prog 134 = some 8 := by kernel_rfl
theorem ag134 : aggQ Try.prog 134 = some false := by kernel_rfl
theorem iu134 : ((Try.prog).underlying 134).isSome = true := by kernel_rfl
theorem ze134 : zerQ Try.prog 134 = some Value.nilFunc := by kernel_rfl
theorem sz135 : sizQ Try.prog 135 = some 1 := by kernel_rfl
theorem by135 : bytQ Try.prog 135 = some 8 := by kernel_rfl
theorem ag135 : aggQ Try.prog 135 = some false := by kernel_rfl
theorem iu135 : ((Try.prog).underlying 135).isSome = true := by kernel_rfl
theorem ze135 : zerQ Try.prog 135 = some Value.nilFunc := by kernel_rfl
theorem sz136 : sizQ Try.prog 136 = some 1 := by kernel_rfl
theorem by136 : bytQ Try.prog 136 = some 8 := by kernel_rfl
theorem ag136 : aggQ Try.prog 136 = some false := by kernel_rfl
theorem iu136 : ((Try.prog).underlying 136).isSome = true := by kernel_rfl
theorem ze136 : zerQ Try.prog 136 = some Value.nilFunc := by kernel_rfl
theorem sz137 : sizQ Try.prog 137 = some 1 := by kernel_rfl
theorem by137 : bytQ Try.prog 137 = some 0 := by kernel_rfl
theorem ag137 : aggQ Try.prog 137 = some false := by kernel_rfl
theorem iu137 : ((Try.prog).underlying 137).isSome = true := by kernel_rfl
theorem ze137 : zerQ Try.prog 137 = some
  (Value.tuple
    {
      toList :=
        [Value.agg { toList := [Value.int IntKind.u64 0, Value.int IntKind.u64 0] },
          Value.int IntKind.i64 0] }) := by kernel_rfl
theorem sz138 : sizQ Try.prog 138 = some 1 := by kernel_rfl
theorem by138 : bytQ Try.prog 138 = some 8 := by kernel_rfl
theorem ag138 : aggQ Try.prog 138 = some false := by kernel_rfl
theorem iu138 : ((Try.prog).underlying 138).isSome = true := by kernel_rfl
theorem ze138 : zerQ Try.prog 138 = some Value.nilFunc := by kernel_rfl
theorem sz139 : sizQ Try.prog 139 = some 1 := by kernel_rfl
theorem by139 : bytQ Try.prog 139 = some 8 := by kernel_rfl
theorem ag139 : aggQ Try.prog 139 = some false := by kernel_rfl
theorem iu139 : ((Try.prog).underlying 139).isSome = true := by kernel_rfl
theorem ze139 : zerQ Try.prog 139 = some Value.nilFunc := by kernel_rfl
theorem sz140 : sizQ Try.prog 140 = some 1 := by kernel_rfl
theorem by140 : bytQ Try.prog 140 = some 8 := by kernel_rfl
theorem ag140 : aggQ Try.prog 140 = some false := by kernel_rfl
theorem iu140 : ((Try.prog).underlying 140).isSome = true := by kernel_rfl
theorem ze140 : zerQ Try.prog 140 = some Value.nilFunc := by kernel_rfl
theorem sz141 : sizQ Try.prog 141 = some 1 := by kernel_rfl
theorem by141 : bytQ Try.prog 141 = some 8 := by kernel_rfl
theorem ag141 : aggQ Try.prog 141 = some false := by kernel_rfl
theorem iu141 : ((Try.prog).underlying 141).isSome = true := by kernel_rfl
theorem ze141 : zerQ Try.prog 141 = some Value.nilFunc := by kernel_rfl
theorem sz142 : sizQ Try.prog 142 = some 1 := by kernel_rfl
theorem by142 : bytQ Try.prog 142 = some 8 := by kernel_rfl
theorem ag142 : aggQ Try.prog 142 = some false := by kernel_rfl
theorem iu142 : ((Try.prog).underlying 142).isSome = true := by kernel_rfl
theorem ze142 : zerQ Try.prog 142 = some Value.nilFunc := by kernel_rfl
theorem sz143 : sizQ Try.prog 143 = some 1 := by kernel_rfl
theorem by143 : bytQ Try.prog 143 = some 8 := by kernel_rfl
theorem ag143 : aggQ Try.prog 143 = some false := by kernel_rfl
theorem pt143 : ptrQ Try.prog 143 = true := by kernel_rfl
theorem iu143 : ((Try.prog).underlying 143).isSome = true := by kernel_rfl
theorem ze143 : zerQ Try.prog 143 = some (Value.pointer none) := by kernel_rfl
theorem sz144 : sizQ Try.prog 144 = some 1 := by kernel_rfl
theorem by144 : bytQ Try.prog 144 = some 8 := by kernel_rfl
theorem ag144 : aggQ Try.prog 144 = some false := by kernel_rfl
theorem iu144 : ((Try.prog).underlying 144).isSome = true := by kernel_rfl
theorem ze144 : zerQ Try.prog 144 = some Value.nilFunc := by kernel_rfl
theorem sz145 : sizQ Try.prog 145 = some 1 := by kernel_rfl
theorem by145 : bytQ Try.prog 145 = some 8 := by kernel_rfl
theorem ag145 : aggQ Try.prog 145 = some false := by kernel_rfl
theorem pt145 : ptrQ Try.prog 145 = true := by kernel_rfl
theorem iu145 : ((Try.prog).underlying 145).isSome = true := by kernel_rfl
theorem ze145 : zerQ Try.prog 145 = some (Value.pointer none) := by kernel_rfl
theorem sz146 : sizQ Try.prog 146 = some 1 := by kernel_rfl
theorem by146 : bytQ Try.prog 146 = some 8 := by kernel_rfl
theorem ag146 : aggQ Try.prog 146 = some false := by kernel_rfl
theorem iu146 : ((Try.prog).underlying 146).isSome = true := by kernel_rfl
theorem ze146 : zerQ Try.prog 146 = some Value.nilFunc := by kernel_rfl
theorem sz147 : sizQ Try.prog 147 = some 1 := by kernel_rfl
theorem by147 : bytQ Try.prog 147 = some 8 := by kernel_rfl
theorem ag147 : aggQ Try.prog 147 = some false := by kernel_rfl
theorem iu147 : ((Try.prog).underlying 147).isSome = true := by kernel_rfl
theorem ze147 : zerQ Try.prog 147 = some Value.nilFunc := by kernel_rfl
theorem sz148 : sizQ Try.prog 148 = some 1 := by kernel_rfl
theorem by148 : bytQ Try.prog 148 = some 8 := by kernel_rfl
theorem ag148 : aggQ Try.prog 148 = some false := by kernel_rfl
theorem iu148 : ((Try.prog).underlying 148).isSome = true := by kernel_rfl
theorem ze148 : zerQ Try.prog 148 = some Value.nilFunc := by kernel_rfl
theorem sz149 : sizQ Try.prog 149 = some 1 := by kernel_rfl
theorem by149 : bytQ Try.prog 149 = some 8 := by kernel_rfl
theorem ag149 : aggQ Try.prog 149 = some false := by kernel_rfl
theorem iu149 : ((Try.prog).underlying 149).isSome = true := by kernel_rfl
theorem ze149 : zerQ Try.prog 149 = some Value.nilFunc := by kernel_rfl
theorem sl150 : slQ Try.prog 150 = some 161 := by kernel_rfl
theorem sz150 : sizQ Try.prog 150 = some 1 := by kernel_rfl
theorem by150 : bytQ Try.prog 150 = some 24 := by kernel_rfl
theorem ag150 : aggQ Try.prog 150 = some false := by kernel_rfl
theorem us150 : (Try.prog).underlying 150 = some (.slice 161) := by kernel_rfl
theorem iu150 : ((Try.prog).underlying 150).isSome = true := by kernel_rfl
theorem ze150 : zerQ Try.prog 150 = some (Value.slice none 0 0) := by kernel_rfl
theorem sz151 : sizQ Try.prog 151 = some 4 := by kernel_rfl
theorem by151 : bytQ Try.prog 151 = some 48 := by kernel_rfl
theorem ag151 : aggQ Try.prog 151 = some true := by kernel_rfl
theorem iu151 : ((Try.prog).underlying 151).isSome = true := by kernel_rfl
theorem fl151_0 : fldQ Try.prog 151 0 = some (0, 24) := by kernel_rfl
theorem fl151_1 : fldQ Try.prog 151 1 = some (1, 150) := by kernel_rfl
theorem fl151_2 : fldQ Try.prog 151 2 = some (2, 3) := by kernel_rfl
theorem fl151_3 : fldQ Try.prog 151 3 = some (3, 92) := by kernel_rfl
theorem pl151 : plQ Try.prog 151 = some [(0, 1), (1, 1), (2, 1), (3, 1)] := by kernel_rfl
theorem ze151 : zerQ Try.prog 151 = some
  (Value.agg
    {
      toList :=
        [Value.int IntKind.u64 0, Value.slice none 0 0, Value.int IntKind.i64 0,
          Value.int IntKind.i64 0] }) := by kernel_rfl
theorem sz152 : sizQ Try.prog 152 = some 4 := by kernel_rfl
theorem by152 : bytQ Try.prog 152 = some 48 := by kernel_rfl
theorem ag152 : aggQ Try.prog 152 = some true := by kernel_rfl
theorem iu152 : ((Try.prog).underlying 152).isSome = true := by kernel_rfl
theorem fl152_0 : fldQ Try.prog 152 0 = some (0, 24) := by kernel_rfl
theorem fl152_1 : fldQ Try.prog 152 1 = some (1, 150) := by kernel_rfl
theorem fl152_2 : fldQ Try.prog 152 2 = some (2, 3) := by kernel_rfl
theorem fl152_3 : fldQ Try.prog 152 3 = some (3, 92) := by kernel_rfl
theorem pl152 : plQ Try.prog 152 = some [(0, 1), (1, 1), (2, 1), (3, 1)] := by kernel_rfl
theorem ze152 : zerQ Try.prog 152 = some
  (Value.agg
    {
      toList :=
        [Value.int IntKind.u64 0, Value.slice none 0 0, Value.int IntKind.i64 0,
          Value.int IntKind.i64 0] }) := by kernel_rfl
theorem sz153 : sizQ Try.prog 153 = some 4 := by kernel_rfl
theorem by153 : bytQ Try.prog 153 = some 32 := by kernel_rfl
theorem ag153 : aggQ Try.prog 153 = some true := by kernel_rfl
theorem iu153 : ((Try.prog).underlying 153).isSome = true := by kernel_rfl
theorem fl153_0 : fldQ Try.prog 153 0 = some (0, 3) := by kernel_rfl
theorem fl153_1 : fldQ Try.prog 153 1 = some (1, 2) := by kernel_rfl
theorem fl153_2 : fldQ Try.prog 153 2 = some (2, 24) := by kernel_rfl
theorem fl153_3 : fldQ Try.prog 153 3 = some (3, 92) := by kernel_rfl
theorem pl153 : plQ Try.prog 153 = some [(0, 1), (1, 1), (2, 1), (3, 1)] := by kernel_rfl
theorem ze153 : zerQ Try.prog 153 = some
  (Value.agg
    {
      toList :=
        [Value.int IntKind.i64 0, Value.int IntKind.i64 0, Value.int IntKind.u64 0,
          Value.int IntKind.i64 0] }) := by kernel_rfl
theorem sz154 : sizQ Try.prog 154 = some 4 := by kernel_rfl
theorem by154 : bytQ Try.prog 154 = some 32 := by kernel_rfl
theorem ag154 : aggQ Try.prog 154 = some true := by kernel_rfl
theorem iu154 : ((Try.prog).underlying 154).isSome = true := by kernel_rfl
theorem fl154_0 : fldQ Try.prog 154 0 = some (0, 3) := by kernel_rfl
theorem fl154_1 : fldQ Try.prog 154 1 = some (1, 2) := by kernel_rfl
theorem fl154_2 : fldQ Try.prog 154 2 = some (2, 24) := by kernel_rfl
theorem fl154_3 : fldQ Try.prog 154 3 = some (3, 92) := by kernel_rfl
theorem pl154 : plQ Try.prog 154 = some [(0, 1), (1, 1), (2, 1), (3, 1)] := by kernel_rfl
theorem ze154 : zerQ Try.prog 154 = some
  (Value.agg
    {
      toList :=
        [Value.int IntKind.i64 0, Value.int IntKind.i64 0, Value.int IntKind.u64 0,
          Value.int IntKind.i64 0] }) := by kernel_rfl
theorem sz155 : sizQ Try.prog 155 = some 1 := by kernel_rfl
theorem by155 : bytQ Try.prog 155 = some 8 := by kernel_rfl
theorem ag155 : aggQ Try.prog 155 = some false := by kernel_rfl
theorem iu155 : ((Try.prog).underlying 155).isSome = true := by kernel_rfl
theorem ze155 : zerQ Try.prog 155 = some Value.nilFunc := by kernel_rfl
theorem sz156 : sizQ Try.prog 156 = some 1 := by kernel_rfl
theorem by156 : bytQ Try.prog 156 = some 8 := by kernel_rfl
theorem ag156 : aggQ Try.prog 156 = some false := by kernel_rfl
theorem iu156 : ((Try.prog).underlying 156).isSome = true := by kernel_rfl
theorem ze156 : zerQ Try.prog 156 = some Value.nilFunc := by kernel_rfl
theorem sz157 : sizQ Try.prog 157 = some 1 := by kernel_rfl
theorem by157 : bytQ Try.prog 157 = some 8 := by kernel_rfl
theorem ag157 : aggQ Try.prog 157 = some false := by kernel_rfl
theorem pt157 : ptrQ Try.prog 157 = true := by kernel_rfl
theorem iu157 : ((Try.prog).underlying 157).isSome = true := by kernel_rfl
theorem ze157 : zerQ Try.prog 157 = some (Value.pointer none) := by kernel_rfl
theorem sz158 : sizQ Try.prog 158 = some 1 := by kernel_rfl
theorem by158 : bytQ Try.prog 158 = some 0 := by kernel_rfl
theorem ag158 : aggQ Try.prog 158 = some false := by kernel_rfl
theorem iu158 : ((Try.prog).underlying 158).isSome = true := by kernel_rfl
theorem ze158 : zerQ Try.prog 158 = some (Value.tuple { toList := [Value.pointer none, Value.int IntKind.i64 0] }) := by kernel_rfl
theorem sz159 : sizQ Try.prog 159 = some 1 := by kernel_rfl
theorem by159 : bytQ Try.prog 159 = some 8 := by kernel_rfl
theorem ag159 : aggQ Try.prog 159 = some false := by kernel_rfl
theorem iu159 : ((Try.prog).underlying 159).isSome = true := by kernel_rfl
theorem ze159 : zerQ Try.prog 159 = some Value.nilFunc := by kernel_rfl
theorem sz160 : sizQ Try.prog 160 = some 2 := by kernel_rfl
theorem by160 : bytQ Try.prog 160 = some 16 := by kernel_rfl
theorem ag160 : aggQ Try.prog 160 = some true := by kernel_rfl
theorem iu160 : ((Try.prog).underlying 160).isSome = true := by kernel_rfl
theorem fl160_0 : fldQ Try.prog 160 0 = some (0, 3) := by kernel_rfl
theorem fl160_1 : fldQ Try.prog 160 1 = some (1, 2) := by kernel_rfl
theorem pl160 : plQ Try.prog 160 = some [(0, 1), (1, 1)] := by kernel_rfl
theorem ze160 : zerQ Try.prog 160 = some (Value.agg { toList := [Value.int IntKind.i64 0, Value.int IntKind.i64 0] }) := by kernel_rfl
theorem sz161 : sizQ Try.prog 161 = some 2 := by kernel_rfl
theorem by161 : bytQ Try.prog 161 = some 16 := by kernel_rfl
theorem ag161 : aggQ Try.prog 161 = some true := by kernel_rfl
theorem iu161 : ((Try.prog).underlying 161).isSome = true := by kernel_rfl
theorem fl161_0 : fldQ Try.prog 161 0 = some (0, 3) := by kernel_rfl
theorem fl161_1 : fldQ Try.prog 161 1 = some (1, 2) := by kernel_rfl
theorem pl161 : plQ Try.prog 161 = some [(0, 1), (1, 1)] := by kernel_rfl
theorem ze161 : zerQ Try.prog 161 = some (Value.agg { toList := [Value.int IntKind.i64 0, Value.int IntKind.i64 0] }) := by kernel_rfl
theorem sz162 : sizQ Try.prog 162 = some 1 := by kernel_rfl
theorem by162 : bytQ Try.prog 162 = some 8 := by kernel_rfl
theorem ag162 : aggQ Try.prog 162 = some false := by kernel_rfl
theorem iu162 : ((Try.prog).underlying 162).isSome = true := by kernel_rfl
theorem ze162 : zerQ Try.prog 162 = some Value.nilFunc := by kernel_rfl
theorem sz163 : sizQ Try.prog 163 = some 1 := by kernel_rfl
theorem by163 : bytQ Try.prog 163 = some 8 := by kernel_rfl
theorem ag163 : aggQ Try.prog 163 = some false := by kernel_rfl
theorem iu163 : ((Try.prog).underlying 163).isSome = true := by kernel_rfl
theorem ze163 : zerQ Try.prog 163 = some Value.nilFunc := by kernel_rfl
theorem sz164 : sizQ Try.prog 164 = some 1 := by kernel_rfl
theorem by164 : bytQ Try.prog 164 = some 8 := by kernel_rfl
theorem ag164 : aggQ Try.prog 164 = some false := by kernel_rfl
theorem iu164 : ((Try.prog).underlying 164).isSome = true := by kernel_rfl
theorem ze164 : zerQ Try.prog 164 = some Value.nilFunc := by kernel_rfl
theorem sz165 : sizQ Try.prog 165 = some 1 := by kernel_rfl
theorem by165 : bytQ Try.prog 165 = some 8 := by kernel_rfl
theorem ag165 : aggQ Try.prog 165 = some false := by kernel_rfl
theorem pt165 : ptrQ Try.prog 165 = true := by kernel_rfl
theorem iu165 : ((Try.prog).underlying 165).isSome = true := by kernel_rfl
theorem ze165 : zerQ Try.prog 165 = some (Value.pointer none) := by kernel_rfl
theorem sz166 : sizQ Try.prog 166 = some 1 := by kernel_rfl
theorem by166 : bytQ Try.prog 166 = some 8 := by kernel_rfl
theorem ag166 : aggQ Try.prog 166 = some false := by kernel_rfl
theorem iu166 : ((Try.prog).underlying 166).isSome = true := by kernel_rfl
theorem ze166 : zerQ Try.prog 166 = some Value.nilFunc := by kernel_rfl
theorem sz167 : sizQ Try.prog 167 = some 1 := by kernel_rfl
theorem by167 : bytQ Try.prog 167 = some 8 := by kernel_rfl
theorem ag167 : aggQ Try.prog 167 = some false := by kernel_rfl
theorem iu167 : ((Try.prog).underlying 167).isSome = true := by kernel_rfl
theorem ze167 : zerQ Try.prog 167 = some Value.nilFunc := by kernel_rfl
theorem sz168 : sizQ Try.prog 168 = some 1 := by kernel_rfl
theorem by168 : bytQ Try.prog 168 = some 0 := by kernel_rfl
theorem ag168 : aggQ Try.prog 168 = some false := by kernel_rfl
theorem iu168 : ((Try.prog).underlying 168).isSome = true := by kernel_rfl
theorem ze168 : zerQ Try.prog 168 = some (Value.tuple { toList := [Value.int IntKind.u64 0, Value.int IntKind.i64 0] }) := by kernel_rfl
theorem sz169 : sizQ Try.prog 169 = some 1 := by kernel_rfl
theorem by169 : bytQ Try.prog 169 = some 8 := by kernel_rfl
theorem ag169 : aggQ Try.prog 169 = some false := by kernel_rfl
theorem iu169 : ((Try.prog).underlying 169).isSome = true := by kernel_rfl
theorem ze169 : zerQ Try.prog 169 = some Value.nilFunc := by kernel_rfl
theorem sz170 : sizQ Try.prog 170 = some 1 := by kernel_rfl
theorem by170 : bytQ Try.prog 170 = some 8 := by kernel_rfl
theorem ag170 : aggQ Try.prog 170 = some false := by kernel_rfl
theorem iu170 : ((Try.prog).underlying 170).isSome = true := by kernel_rfl
theorem ze170 : zerQ Try.prog 170 = some Value.nilFunc := by kernel_rfl
theorem sz171 : sizQ Try.prog 171 = some 1 := by kernel_rfl
theorem by171 : bytQ Try.prog 171 = some 4 := by kernel_rfl
theorem ag171 : aggQ Try.prog 171 = some false := by kernel_rfl
theorem in171 : intQ Try.prog 171 = some IntKind.u32 := by kernel_rfl
theorem ui171 : (Try.prog).underlying 171 = some (.int IntKind.u32) := by kernel_rfl
theorem iu171 : ((Try.prog).underlying 171).isSome = true := by kernel_rfl
theorem ze171 : zerQ Try.prog 171 = some (Value.int IntKind.u32 0) := by kernel_rfl
theorem sz172 : sizQ Try.prog 172 = some 1 := by kernel_rfl
theorem by172 : bytQ Try.prog 172 = some 8 := by kernel_rfl
theorem ag172 : aggQ Try.prog 172 = some false := by kernel_rfl
theorem iu172 : ((Try.prog).underlying 172).isSome = true := by kernel_rfl
theorem ze172 : zerQ Try.prog 172 = some Value.nilFunc := by kernel_rfl
theorem sl173 : slQ Try.prog 173 = some 176 := by kernel_rfl
theorem sz173 : sizQ Try.prog 173 = some 1 := by kernel_rfl
theorem by173 : bytQ Try.prog 173 = some 24 := by kernel_rfl
theorem ag173 : aggQ Try.prog 173 = some false := by kernel_rfl
theorem us173 : (Try.prog).underlying 173 = some (.slice 176) := by kernel_rfl
theorem iu173 : ((Try.prog).underlying 173).isSome = true := by kernel_rfl
theorem ze173 : zerQ Try.prog 173 = some (Value.slice none 0 0) := by kernel_rfl
theorem sz174 : sizQ Try.prog 174 = some 1 := by kernel_rfl
theorem by174 : bytQ Try.prog 174 = some 8 := by kernel_rfl
theorem ag174 : aggQ Try.prog 174 = some false := by kernel_rfl
theorem iu174 : ((Try.prog).underlying 174).isSome = true := by kernel_rfl
theorem ze174 : zerQ Try.prog 174 = some Value.nilFunc := by kernel_rfl
theorem sz175 : sizQ Try.prog 175 = some 4 := by kernel_rfl
theorem by175 : bytQ Try.prog 175 = some 40 := by kernel_rfl
theorem ag175 : aggQ Try.prog 175 = some true := by kernel_rfl
theorem iu175 : ((Try.prog).underlying 175).isSome = true := by kernel_rfl
theorem fl175_0 : fldQ Try.prog 175 0 = some (0, 9) := by kernel_rfl
theorem fl175_1 : fldQ Try.prog 175 1 = some (1, 2) := by kernel_rfl
theorem fl175_2 : fldQ Try.prog 175 2 = some (2, 2) := by kernel_rfl
theorem fl175_3 : fldQ Try.prog 175 3 = some (3, 2) := by kernel_rfl
theorem pl175 : plQ Try.prog 175 = some [(0, 1), (1, 1), (2, 1), (3, 1)] := by kernel_rfl
theorem ze175 : zerQ Try.prog 175 = some
  (Value.agg
    {
      toList :=
        [Value.string { data := { toList := [] } }, Value.int IntKind.i64 0,
          Value.int IntKind.i64 0, Value.int IntKind.i64 0] }) := by kernel_rfl
theorem sz176 : sizQ Try.prog 176 = some 4 := by kernel_rfl
theorem by176 : bytQ Try.prog 176 = some 40 := by kernel_rfl
theorem ag176 : aggQ Try.prog 176 = some true := by kernel_rfl
theorem iu176 : ((Try.prog).underlying 176).isSome = true := by kernel_rfl
theorem fl176_0 : fldQ Try.prog 176 0 = some (0, 9) := by kernel_rfl
theorem fl176_1 : fldQ Try.prog 176 1 = some (1, 2) := by kernel_rfl
theorem fl176_2 : fldQ Try.prog 176 2 = some (2, 2) := by kernel_rfl
theorem fl176_3 : fldQ Try.prog 176 3 = some (3, 2) := by kernel_rfl
theorem pl176 : plQ Try.prog 176 = some [(0, 1), (1, 1), (2, 1), (3, 1)] := by kernel_rfl
theorem ze176 : zerQ Try.prog 176 = some
  (Value.agg
    {
      toList :=
        [Value.string { data := { toList := [] } }, Value.int IntKind.i64 0,
          Value.int IntKind.i64 0, Value.int IntKind.i64 0] }) := by kernel_rfl
theorem sz177 : sizQ Try.prog 177 = some 1 := by kernel_rfl
theorem by177 : bytQ Try.prog 177 = some 8 := by kernel_rfl
theorem ag177 : aggQ Try.prog 177 = some false := by kernel_rfl
theorem iu177 : ((Try.prog).underlying 177).isSome = true := by kernel_rfl
theorem ze177 : zerQ Try.prog 177 = some Value.nilFunc := by kernel_rfl
theorem sz178 : sizQ Try.prog 178 = some 1 := by kernel_rfl
theorem by178 : bytQ Try.prog 178 = some 8 := by kernel_rfl
theorem ag178 : aggQ Try.prog 178 = some false := by kernel_rfl
theorem iu178 : ((Try.prog).underlying 178).isSome = true := by kernel_rfl
theorem ze178 : zerQ Try.prog 178 = some Value.nilFunc := by kernel_rfl
theorem sz179 : sizQ Try.prog 179 = some 1 := by kernel_rfl
theorem by179 : bytQ Try.prog 179 = some 8 := by kernel_rfl
theorem ag179 : aggQ Try.prog 179 = some false := by kernel_rfl
theorem iu179 : ((Try.prog).underlying 179).isSome = true := by kernel_rfl
theorem ze179 : zerQ Try.prog 179 = some Value.nilFunc := by kernel_rfl
theorem sl180 : slQ Try.prog 180 = some 37 := by kernel_rfl
theorem sz180 : sizQ Try.prog 180 = some 1 := by kernel_rfl
theorem by180 : bytQ Try.prog 180 = some 24 := by kernel_rfl
theorem ag180 : aggQ Try.prog 180 = some false := by kernel_rfl
theorem us180 : (Try.prog).underlying 180 = some (.slice 37) := by kernel_rfl
theorem iu180 : ((Try.prog).underlying 180).isSome = true := by kernel_rfl
theorem ze180 : zerQ Try.prog 180 = some (Value.slice none 0 0) := by kernel_rfl
theorem sz181 : sizQ Try.prog 181 = some 1 := by kernel_rfl
theorem by181 : bytQ Try.prog 181 = some 8 := by kernel_rfl
theorem ag181 : aggQ Try.prog 181 = some false := by kernel_rfl
theorem iu181 : ((Try.prog).underlying 181).isSome = true := by kernel_rfl
theorem ze181 : zerQ Try.prog 181 = some Value.nilFunc := by kernel_rfl
theorem sz182 : sizQ Try.prog 182 = some 4 := by kernel_rfl
theorem by182 : bytQ Try.prog 182 = some 32 := by kernel_rfl
theorem ag182 : aggQ Try.prog 182 = some true := by kernel_rfl
theorem ar182 : arQ Try.prog 182 = some (4, 24) := by kernel_rfl
theorem iu182 : ((Try.prog).underlying 182).isSome = true := by kernel_rfl
theorem ze182 : zerQ Try.prog 182 = some
  (Value.agg
    {
      toList :=
        [Value.int IntKind.u64 0, Value.int IntKind.u64 0, Value.int IntKind.u64 0,
          Value.int IntKind.u64 0] }) := by kernel_rfl
theorem sz183 : sizQ Try.prog 183 = some 1 := by kernel_rfl
theorem by183 : bytQ Try.prog 183 = some 8 := by kernel_rfl
theorem ag183 : aggQ Try.prog 183 = some false := by kernel_rfl
theorem iu183 : ((Try.prog).underlying 183).isSome = true := by kernel_rfl
theorem ze183 : zerQ Try.prog 183 = some Value.nilFunc := by kernel_rfl
theorem sz184 : sizQ Try.prog 184 = some 6 := by kernel_rfl
theorem by184 : bytQ Try.prog 184 = some 64 := by kernel_rfl
theorem ag184 : aggQ Try.prog 184 = some true := by kernel_rfl
theorem iu184 : ((Try.prog).underlying 184).isSome = true := by kernel_rfl
theorem fl184_0 : fldQ Try.prog 184 0 = some (0, 182) := by kernel_rfl
theorem fl184_1 : fldQ Try.prog 184 1 = some (4, 37) := by kernel_rfl
theorem fl184_2 : fldQ Try.prog 184 2 = some (5, 3) := by kernel_rfl
theorem pl184 : plQ Try.prog 184 = some [(0, 4), (4, 1), (5, 1)] := by kernel_rfl
theorem ze184 : zerQ Try.prog 184 = some
  (Value.agg
    {
      toList :=
        [Value.int IntKind.u64 0, Value.int IntKind.u64 0, Value.int IntKind.u64 0,
          Value.int IntKind.u64 0, Value.slice none 0 0, Value.int IntKind.i64 0] }) := by kernel_rfl
theorem sz185 : sizQ Try.prog 185 = some 6 := by kernel_rfl
theorem by185 : bytQ Try.prog 185 = some 64 := by kernel_rfl
theorem ag185 : aggQ Try.prog 185 = some true := by kernel_rfl
theorem iu185 : ((Try.prog).underlying 185).isSome = true := by kernel_rfl
theorem fl185_0 : fldQ Try.prog 185 0 = some (0, 182) := by kernel_rfl
theorem fl185_1 : fldQ Try.prog 185 1 = some (4, 37) := by kernel_rfl
theorem fl185_2 : fldQ Try.prog 185 2 = some (5, 3) := by kernel_rfl
theorem pl185 : plQ Try.prog 185 = some [(0, 4), (4, 1), (5, 1)] := by kernel_rfl
theorem ze185 : zerQ Try.prog 185 = some
  (Value.agg
    {
      toList :=
        [Value.int IntKind.u64 0, Value.int IntKind.u64 0, Value.int IntKind.u64 0,
          Value.int IntKind.u64 0, Value.slice none 0 0, Value.int IntKind.i64 0] }) := by kernel_rfl
theorem sz186 : sizQ Try.prog 186 = some 1 := by kernel_rfl
theorem by186 : bytQ Try.prog 186 = some 8 := by kernel_rfl
theorem ag186 : aggQ Try.prog 186 = some false := by kernel_rfl
theorem iu186 : ((Try.prog).underlying 186).isSome = true := by kernel_rfl
theorem ze186 : zerQ Try.prog 186 = some Value.nilFunc := by kernel_rfl
theorem sz187 : sizQ Try.prog 187 = some 1 := by kernel_rfl
theorem by187 : bytQ Try.prog 187 = some 8 := by kernel_rfl
theorem ag187 : aggQ Try.prog 187 = some false := by kernel_rfl
theorem iu187 : ((Try.prog).underlying 187).isSome = true := by kernel_rfl
theorem ze187 : zerQ Try.prog 187 = some Value.nilFunc := by kernel_rfl
theorem sz188 : sizQ Try.prog 188 = some 1 := by kernel_rfl
theorem by188 : bytQ Try.prog 188 = some 8 := by kernel_rfl
theorem ag188 : aggQ Try.prog 188 = some false := by kernel_rfl
theorem iu188 : ((Try.prog).underlying 188).isSome = true := by kernel_rfl
theorem ze188 : zerQ Try.prog 188 = some Value.nilFunc := by kernel_rfl
theorem sz189 : sizQ Try.prog 189 = some 1 := by kernel_rfl
theorem by189 : bytQ Try.prog 189 = some 8 := by kernel_rfl
theorem ag189 : aggQ Try.prog 189 = some false := by kernel_rfl
theorem iu189 : ((Try.prog).underlying 189).isSome = true := by kernel_rfl
theorem ze189 : zerQ Try.prog 189 = some Value.nilFunc := by kernel_rfl
theorem sz190 : sizQ Try.prog 190 = some 1 := by kernel_rfl
theorem by190 : bytQ Try.prog 190 = some 0 := by kernel_rfl
theorem ag190 : aggQ Try.prog 190 = some false := by kernel_rfl
theorem iu190 : ((Try.prog).underlying 190).isSome = true := by kernel_rfl
theorem ze190 : zerQ Try.prog 190 = some
  (Value.tuple
    {
      toList :=
        [Value.int IntKind.u64 0, Value.int IntKind.u64 0, Value.int IntKind.u64 0,
          Value.int IntKind.u64 0] }) := by kernel_rfl
theorem sz191 : sizQ Try.prog 191 = some 1 := by kernel_rfl
theorem by191 : bytQ Try.prog 191 = some 8 := by kernel_rfl
theorem ag191 : aggQ Try.prog 191 = some false := by kernel_rfl
theorem iu191 : ((Try.prog).underlying 191).isSome = true := by kernel_rfl
theorem ze191 : zerQ Try.prog 191 = some Value.nilFunc := by kernel_rfl
theorem sz192 : sizQ Try.prog 192 = some 1 := by kernel_rfl
theorem by192 : bytQ Try.prog 192 = some 8 := by kernel_rfl
theorem ag192 : aggQ Try.prog 192 = some false := by kernel_rfl
theorem iu192 : ((Try.prog).underlying 192).isSome = true := by kernel_rfl
theorem ze192 : zerQ Try.prog 192 = some Value.nilFunc := by kernel_rfl
theorem sz193 : sizQ Try.prog 193 = some 1 := by kernel_rfl
theorem by193 : bytQ Try.prog 193 = some 8 := by kernel_rfl
theorem ag193 : aggQ Try.prog 193 = some false := by kernel_rfl
theorem iu193 : ((Try.prog).underlying 193).isSome = true := by kernel_rfl
theorem ze193 : zerQ Try.prog 193 = some Value.nilFunc := by kernel_rfl
theorem sz194 : sizQ Try.prog 194 = some 1 := by kernel_rfl
theorem by194 : bytQ Try.prog 194 = some 8 := by kernel_rfl
theorem ag194 : aggQ Try.prog 194 = some false := by kernel_rfl
theorem iu194 : ((Try.prog).underlying 194).isSome = true := by kernel_rfl
theorem ze194 : zerQ Try.prog 194 = some Value.nilFunc := by kernel_rfl
theorem sz195 : sizQ Try.prog 195 = some 4 := by kernel_rfl
theorem by195 : bytQ Try.prog 195 = some 40 := by kernel_rfl
theorem ag195 : aggQ Try.prog 195 = some true := by kernel_rfl
theorem iu195 : ((Try.prog).underlying 195).isSome = true := by kernel_rfl
theorem fl195_0 : fldQ Try.prog 195 0 = some (0, 17) := by kernel_rfl
theorem fl195_1 : fldQ Try.prog 195 1 = some (1, 17) := by kernel_rfl
theorem fl195_2 : fldQ Try.prog 195 2 = some (2, 17) := by kernel_rfl
theorem fl195_3 : fldQ Try.prog 195 3 = some (3, 9) := by kernel_rfl
theorem pl195 : plQ Try.prog 195 = some [(0, 1), (1, 1), (2, 1), (3, 1)] := by kernel_rfl
theorem ze195 : zerQ Try.prog 195 = some
  (Value.agg
    {
      toList :=
        [Value.pointer none, Value.pointer none, Value.pointer none, Value.string { data := { toList := [] } }] }) := by kernel_rfl
theorem sz196 : sizQ Try.prog 196 = some 4 := by kernel_rfl
theorem by196 : bytQ Try.prog 196 = some 40 := by kernel_rfl
theorem ag196 : aggQ Try.prog 196 = some true := by kernel_rfl
theorem iu196 : ((Try.prog).underlying 196).isSome = true := by kernel_rfl
theorem fl196_0 : fldQ Try.prog 196 0 = some (0, 17) := by kernel_rfl
theorem fl196_1 : fldQ Try.prog 196 1 = some (1, 17) := by kernel_rfl
theorem fl196_2 : fldQ Try.prog 196 2 = some (2, 17) := by kernel_rfl
theorem fl196_3 : fldQ Try.prog 196 3 = some (3, 9) := by kernel_rfl
theorem pl196 : plQ Try.prog 196 = some [(0, 1), (1, 1), (2, 1), (3, 1)] := by kernel_rfl
theorem ze196 : zerQ Try.prog 196 = some
  (Value.agg
    {
      toList :=
        [Value.pointer none, Value.pointer none, Value.pointer none, Value.string { data := { toList := [] } }] }) := by kernel_rfl
theorem sz197 : sizQ Try.prog 197 = some 0 := by kernel_rfl
theorem by197 : bytQ Try.prog 197 = some 0 := by kernel_rfl
theorem ag197 : aggQ Try.prog 197 = some true := by kernel_rfl
theorem ar197 : arQ Try.prog 197 = some (0, 16) := by kernel_rfl
theorem iu197 : ((Try.prog).underlying 197).isSome = true := by kernel_rfl
theorem ze197 : zerQ Try.prog 197 = some (Value.agg { toList := [] }) := by kernel_rfl
theorem sz198 : sizQ Try.prog 198 = some 0 := by kernel_rfl
theorem by198 : bytQ Try.prog 198 = some 0 := by kernel_rfl
theorem ag198 : aggQ Try.prog 198 = some true := by kernel_rfl
theorem iu198 : ((Try.prog).underlying 198).isSome = true := by kernel_rfl
theorem fl198_0 : fldQ Try.prog 198 0 = some (0, 197) := by kernel_rfl
theorem pl198 : plQ Try.prog 198 = some [(0, 0)] := by kernel_rfl
theorem ze198 : zerQ Try.prog 198 = some (Value.agg { toList := [] }) := by kernel_rfl
theorem sz199 : sizQ Try.prog 199 = some 0 := by kernel_rfl
theorem by199 : bytQ Try.prog 199 = some 0 := by kernel_rfl
theorem ag199 : aggQ Try.prog 199 = some true := by kernel_rfl
theorem iu199 : ((Try.prog).underlying 199).isSome = true := by kernel_rfl
theorem fl199_0 : fldQ Try.prog 199 0 = some (0, 197) := by kernel_rfl
theorem pl199 : plQ Try.prog 199 = some [(0, 0)] := by kernel_rfl
theorem ze199 : zerQ Try.prog 199 = some (Value.agg { toList := [] }) := by kernel_rfl
theorem sz200 : sizQ Try.prog 200 = some 1 := by kernel_rfl
theorem by200 : bytQ Try.prog 200 = some 1 := by kernel_rfl
theorem ag200 : aggQ Try.prog 200 = some false := by kernel_rfl
theorem in200 : intQ Try.prog 200 = some IntKind.u8 := by kernel_rfl
theorem ui200 : (Try.prog).underlying 200 = some (.int IntKind.u8) := by kernel_rfl
theorem iu200 : ((Try.prog).underlying 200).isSome = true := by kernel_rfl
theorem ze200 : zerQ Try.prog 200 = some (Value.int IntKind.u8 0) := by kernel_rfl
theorem sz201 : sizQ Try.prog 201 = some 1 := by kernel_rfl
theorem by201 : bytQ Try.prog 201 = some 1 := by kernel_rfl
theorem ag201 : aggQ Try.prog 201 = some false := by kernel_rfl
theorem in201 : intQ Try.prog 201 = some IntKind.u8 := by kernel_rfl
theorem ui201 : (Try.prog).underlying 201 = some (.int IntKind.u8) := by kernel_rfl
theorem iu201 : ((Try.prog).underlying 201).isSome = true := by kernel_rfl
theorem ze201 : zerQ Try.prog 201 = some (Value.int IntKind.u8 0) := by kernel_rfl
theorem sz202 : sizQ Try.prog 202 = some 1 := by kernel_rfl
theorem by202 : bytQ Try.prog 202 = some 8 := by kernel_rfl
theorem ag202 : aggQ Try.prog 202 = some false := by kernel_rfl
theorem iu202 : ((Try.prog).underlying 202).isSome = true := by kernel_rfl
theorem ze202 : zerQ Try.prog 202 = some Value.nilFunc := by kernel_rfl
theorem sz203 : sizQ Try.prog 203 = some 1 := by kernel_rfl
theorem by203 : bytQ Try.prog 203 = some 8 := by kernel_rfl
theorem ag203 : aggQ Try.prog 203 = some false := by kernel_rfl
theorem pt203 : ptrQ Try.prog 203 = true := by kernel_rfl
theorem iu203 : ((Try.prog).underlying 203).isSome = true := by kernel_rfl
theorem ze203 : zerQ Try.prog 203 = some (Value.pointer none) := by kernel_rfl
theorem sz204 : sizQ Try.prog 204 = some 1 := by kernel_rfl
theorem by204 : bytQ Try.prog 204 = some 4 := by kernel_rfl
theorem ag204 : aggQ Try.prog 204 = some false := by kernel_rfl
theorem in204 : intQ Try.prog 204 = some IntKind.i32 := by kernel_rfl
theorem ui204 : (Try.prog).underlying 204 = some (.int IntKind.i32) := by kernel_rfl
theorem iu204 : ((Try.prog).underlying 204).isSome = true := by kernel_rfl
theorem ze204 : zerQ Try.prog 204 = some (Value.int IntKind.i32 0) := by kernel_rfl
theorem sz205 : sizQ Try.prog 205 = some 1 := by kernel_rfl
theorem by205 : bytQ Try.prog 205 = some 4 := by kernel_rfl
theorem ag205 : aggQ Try.prog 205 = some false := by kernel_rfl
theorem in205 : intQ Try.prog 205 = some IntKind.i32 := by kernel_rfl
theorem ui205 : (Try.prog).underlying 205 = some (.int IntKind.i32) := by kernel_rfl
theorem iu205 : ((Try.prog).underlying 205).isSome = true := by kernel_rfl
theorem ze205 : zerQ Try.prog 205 = some (Value.int IntKind.i32 0) := by kernel_rfl
theorem sz206 : sizQ Try.prog 206 = some 11 := by kernel_rfl
theorem by206 : bytQ Try.prog 206 = some 48 := by kernel_rfl
theorem ag206 : aggQ Try.prog 206 = some true := by kernel_rfl
theorem iu206 : ((Try.prog).underlying 206).isSome = true := by kernel_rfl
theorem fl206_0 : fldQ Try.prog 206 0 = some (0, 12) := by kernel_rfl
theorem fl206_1 : fldQ Try.prog 206 1 = some (1, 12) := by kernel_rfl
theorem fl206_2 : fldQ Try.prog 206 2 = some (2, 171) := by kernel_rfl
theorem fl206_3 : fldQ Try.prog 206 3 = some (3, 200) := by kernel_rfl
theorem fl206_4 : fldQ Try.prog 206 4 = some (4, 5) := by kernel_rfl
theorem fl206_5 : fldQ Try.prog 206 5 = some (5, 5) := by kernel_rfl
theorem fl206_6 : fldQ Try.prog 206 6 = some (6, 201) := by kernel_rfl
theorem fl206_7 : fldQ Try.prog 206 7 = some (7, 202) := by kernel_rfl
theorem fl206_8 : fldQ Try.prog 206 8 = some (8, 203) := by kernel_rfl
theorem fl206_9 : fldQ Try.prog 206 9 = some (9, 204) := by kernel_rfl
theorem fl206_10 : fldQ Try.prog 206 10 = some (10, 205) := by kernel_rfl
theorem pl206 : plQ Try.prog 206 = some [(0, 1), (1, 1), (2, 1), (3, 1), (4, 1), (5, 1), (6, 1), (7, 1), (8, 1), (9, 1), (10, 1)] := by kernel_rfl
theorem ze206 : zerQ Try.prog 206 = some
  (Value.agg
    {
      toList :=
        [Value.int IntKind.u64 0, Value.int IntKind.u64 0, Value.int IntKind.u32 0,
          Value.int IntKind.u8 0, Value.int IntKind.u8 0, Value.int IntKind.u8 0,
          Value.int IntKind.u8 0, Value.nilFunc, Value.pointer none, Value.int IntKind.i32 0,
          Value.int IntKind.i32 0] }) := by kernel_rfl
theorem sz207 : sizQ Try.prog 207 = some 11 := by kernel_rfl
theorem by207 : bytQ Try.prog 207 = some 48 := by kernel_rfl
theorem ag207 : aggQ Try.prog 207 = some true := by kernel_rfl
theorem iu207 : ((Try.prog).underlying 207).isSome = true := by kernel_rfl
theorem fl207_0 : fldQ Try.prog 207 0 = some (0, 12) := by kernel_rfl
theorem fl207_1 : fldQ Try.prog 207 1 = some (1, 12) := by kernel_rfl
theorem fl207_2 : fldQ Try.prog 207 2 = some (2, 171) := by kernel_rfl
theorem fl207_3 : fldQ Try.prog 207 3 = some (3, 200) := by kernel_rfl
theorem fl207_4 : fldQ Try.prog 207 4 = some (4, 5) := by kernel_rfl
theorem fl207_5 : fldQ Try.prog 207 5 = some (5, 5) := by kernel_rfl
theorem fl207_6 : fldQ Try.prog 207 6 = some (6, 201) := by kernel_rfl
theorem fl207_7 : fldQ Try.prog 207 7 = some (7, 202) := by kernel_rfl
theorem fl207_8 : fldQ Try.prog 207 8 = some (8, 203) := by kernel_rfl
theorem fl207_9 : fldQ Try.prog 207 9 = some (9, 204) := by kernel_rfl
theorem fl207_10 : fldQ Try.prog 207 10 = some (10, 205) := by kernel_rfl
theorem pl207 : plQ Try.prog 207 = some [(0, 1), (1, 1), (2, 1), (3, 1), (4, 1), (5, 1), (6, 1), (7, 1), (8, 1), (9, 1), (10, 1)] := by kernel_rfl
theorem ze207 : zerQ Try.prog 207 = some
  (Value.agg
    {
      toList :=
        [Value.int IntKind.u64 0, Value.int IntKind.u64 0, Value.int IntKind.u32 0,
          Value.int IntKind.u8 0, Value.int IntKind.u8 0, Value.int IntKind.u8 0,
          Value.int IntKind.u8 0, Value.nilFunc, Value.pointer none, Value.int IntKind.i32 0,
          Value.int IntKind.i32 0] }) := by kernel_rfl
theorem sz208 : sizQ Try.prog 208 = some 1 := by kernel_rfl
theorem by208 : bytQ Try.prog 208 = some 8 := by kernel_rfl
theorem ag208 : aggQ Try.prog 208 = some false := by kernel_rfl
theorem iu208 : ((Try.prog).underlying 208).isSome = true := by kernel_rfl
theorem ze208 : zerQ Try.prog 208 = some Value.nilFunc := by kernel_rfl
theorem sz209 : sizQ Try.prog 209 = some 1 := by kernel_rfl
theorem by209 : bytQ Try.prog 209 = some 8 := by kernel_rfl
theorem ag209 : aggQ Try.prog 209 = some false := by kernel_rfl
theorem iu209 : ((Try.prog).underlying 209).isSome = true := by kernel_rfl
theorem ze209 : zerQ Try.prog 209 = some (Value.pointer none) := by kernel_rfl
theorem go2 : goQ Try.prog 2 = true := by kernel_rfl
theorem go3 : goQ Try.prog 3 = true := by kernel_rfl
theorem go4 : goQ Try.prog 4 = true := by kernel_rfl
theorem go5 : goQ Try.prog 5 = true := by kernel_rfl
theorem go6 : goQ Try.prog 6 = true := by kernel_rfl
theorem go7 : goQ Try.prog 7 = true := by kernel_rfl
theorem go8 : goQ Try.prog 8 = true := by kernel_rfl
theorem go9 : goQ Try.prog 9 = true := by kernel_rfl
theorem go10 : goQ Try.prog 10 = true := by kernel_rfl
theorem go11 : goQ Try.prog 11 = true := by kernel_rfl
theorem go12 : goQ Try.prog 12 = true := by kernel_rfl
theorem go13 : goQ Try.prog 13 = true := by kernel_rfl
theorem go14 : goQ Try.prog 14 = true := by kernel_rfl
theorem go15 : goQ Try.prog 15 = true := by kernel_rfl
theorem go16 : goQ Try.prog 16 = true := by kernel_rfl
theorem go17 : goQ Try.prog 17 = true := by kernel_rfl
theorem go18 : goQ Try.prog 18 = true := by kernel_rfl
theorem go19 : goQ Try.prog 19 = true := by kernel_rfl
theorem go20 : goQ Try.prog 20 = true := by kernel_rfl
theorem go21 : goQ Try.prog 21 = true := by kernel_rfl
theorem go22 : goQ Try.prog 22 = true := by kernel_rfl
theorem go23 : goQ Try.prog 23 = true := by kernel_rfl
theorem go24 : goQ Try.prog 24 = true := by kernel_rfl
theorem go25 : goQ Try.prog 25 = true := by kernel_rfl
theorem go26 : goQ Try.prog 26 = true := by kernel_rfl
theorem go27 : goQ Try.prog 27 = true := by kernel_rfl
theorem go28 : goQ Try.prog 28 = true := by kernel_rfl
theorem go29 : goQ Try.prog 29 = true := by kernel_rfl
theorem go30 : goQ Try.prog 30 = true := by kernel_rfl
theorem go31 : goQ Try.prog 31 = true := by kernel_rfl
theorem go32 : goQ Try.prog 32 = true := by kernel_rfl
theorem go33 : goQ Try.prog 33 = true := by kernel_rfl
theorem go34 : goQ Try.prog 34 = true := by kernel_rfl
theorem go35 : goQ Try.prog 35 = true := by kernel_rfl
theorem go36 : goQ Try.prog 36 = true := by kernel_rfl
theorem go37 : goQ Try.prog 37 = true := by kernel_rfl
theorem go38 : goQ Try.prog 38 = true := by kernel_rfl
theorem go39 : goQ Try.prog 39 = true := by kernel_rfl
theorem go40 : goQ Try.prog 40 = true := by kernel_rfl
theorem go41 : goQ Try.prog 41 = true := by kernel_rfl
theorem go42 : goQ Try.prog 42 = true := by kernel_rfl
theorem go43 : goQ Try.prog 43 = true := by kernel_rfl
theorem go44 : goQ Try.prog 44 = true := by kernel_rfl
theorem go45 : goQ Try.prog 45 = true := by kernel_rfl
theorem go46 : goQ Try.prog 46 = true := by kernel_rfl
theorem go47 : goQ Try.prog 47 = true := by kernel_rfl
theorem go48 : goQ Try.prog 48 = true := by kernel_rfl
theorem go49 : goQ Try.prog 49 = true := by kernel_rfl
theorem go50 : goQ Try.prog 50 = true := by kernel_rfl
theorem go51 : goQ Try.prog 51 = true := by kernel_rfl
theorem go52 : goQ Try.prog 52 = true := by kernel_rfl
theorem go53 : goQ Try.prog 53 = true := by kernel_rfl
theorem go54 : goQ Try.prog 54 = true := by kernel_rfl
theorem go55 : goQ Try.prog 55 = true := by kernel_rfl
theorem go56 : goQ Try.prog 56 = true := by kernel_rfl
theorem go57 : goQ Try.prog 57 = true := by kernel_rfl
theorem go58 : goQ Try.prog 58 = true := by kernel_rfl
theorem go59 : goQ Try.prog 59 = true := by kernel_rfl
theorem go60 : goQ Try.prog 60 = true := by kernel_rfl
theorem go61 : goQ Try.prog 61 = true := by kernel_rfl
theorem go62 : goQ Try.prog 62 = true := by kernel_rfl
theorem go63 : goQ Try.prog 63 = true := by kernel_rfl
theorem go64 : goQ Try.prog 64 = true := by kernel_rfl
theorem go65 : goQ Try.prog 65 = true := by kernel_rfl
theorem go66 : goQ Try.prog 66 = true := by kernel_rfl
theorem go67 : goQ Try.prog 67 = true := by kernel_rfl
theorem go68 : goQ Try.prog 68 = true := by kernel_rfl
theorem go69 : goQ Try.prog 69 = true := by kernel_rfl
theorem go70 : goQ Try.prog 70 = true := by kernel_rfl
theorem go71 : goQ Try.prog 71 = true := by kernel_rfl
theorem go72 : goQ Try.prog 72 = true := by kernel_rfl
theorem go73 : goQ Try.prog 73 = true := by kernel_rfl
theorem go74 : goQ Try.prog 74 = true := by kernel_rfl
theorem go75 : goQ Try.prog 75 = true := by kernel_rfl
theorem go76 : goQ Try.prog 76 = true := by kernel_rfl
theorem go77 : goQ Try.prog 77 = true := by kernel_rfl
theorem go78 : goQ Try.prog 78 = true := by kernel_rfl
theorem go79 : goQ Try.prog 79 = true := by kernel_rfl
theorem go80 : goQ Try.prog 80 = true := by kernel_rfl
theorem go81 : goQ Try.prog 81 = true := by kernel_rfl
theorem go82 : goQ Try.prog 82 = true := by kernel_rfl
theorem go83 : goQ Try.prog 83 = true := by kernel_rfl
theorem go84 : goQ Try.prog 84 = true := by kernel_rfl
theorem go85 : goQ Try.prog 85 = true := by kernel_rfl
theorem go86 : goQ Try.prog 86 = true := by kernel_rfl
theorem go88 : goQ Try.prog 88 = true := by kernel_rfl
theorem go89 : goQ Try.prog 89 = true := by kernel_rfl
theorem go90 : goQ Try.prog 90 = true := by kernel_rfl
theorem go91 : goQ Try.prog 91 = true := by kernel_rfl
theorem go92 : goQ Try.prog 92 = true := by kernel_rfl
theorem go93 : goQ Try.prog 93 = true := by kernel_rfl
theorem go94 : goQ Try.prog 94 = true := by kernel_rfl
theorem go95 : goQ Try.prog 95 = true := by kernel_rfl
theorem go96 : goQ Try.prog 96 = true := by kernel_rfl
theorem go97 : goQ Try.prog 97 = true := by kernel_rfl
theorem go98 : goQ Try.prog 98 = true := by kernel_rfl
theorem go99 : goQ Try.prog 99 = true := by kernel_rfl
theorem go101 : goQ Try.prog 101 = true := by kernel_rfl
theorem go102 : goQ Try.prog 102 = true := by kernel_rfl
theorem go103 : goQ Try.prog 103 = true := by kernel_rfl
theorem go104 : goQ Try.prog 104 = true := by kernel_rfl
theorem go105 : goQ Try.prog 105 = true := by kernel_rfl
theorem go106 : goQ Try.prog 106 = true := by kernel_rfl
theorem go107 : goQ Try.prog 107 = true := by kernel_rfl
theorem go108 : goQ Try.prog 108 = true := by kernel_rfl
theorem go110 : goQ Try.prog 110 = true := by kernel_rfl
theorem go111 : goQ Try.prog 111 = true := by kernel_rfl
theorem go112 : goQ Try.prog 112 = true := by kernel_rfl
theorem go113 : goQ Try.prog 113 = true := by kernel_rfl
theorem go114 : goQ Try.prog 114 = true := by kernel_rfl
theorem go115 : goQ Try.prog 115 = true := by kernel_rfl
theorem go116 : goQ Try.prog 116 = true := by kernel_rfl
theorem go117 : goQ Try.prog 117 = true := by kernel_rfl
theorem go118 : goQ Try.prog 118 = true := by kernel_rfl
theorem go119 : goQ Try.prog 119 = true := by kernel_rfl
theorem go120 : goQ Try.prog 120 = true := by kernel_rfl
theorem go121 : goQ Try.prog 121 = true := by kernel_rfl
theorem go122 : goQ Try.prog 122 = true := by kernel_rfl
theorem go123 : goQ Try.prog 123 = true := by kernel_rfl
theorem mixed : (Try.prog).follows .mixedOrders = true := by kernel_rfl
end Go.Proofs.Ytphoapajlcaoeaa
