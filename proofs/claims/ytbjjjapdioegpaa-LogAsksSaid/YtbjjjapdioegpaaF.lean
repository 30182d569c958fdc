/- Facts on the types and functions of the seat. -/
import Derived.Test.YtbjjjapdioegpaaProg
import Derived.Test.YtbjjjapdioegpaaE7
set_option linter.unusedVariables false
namespace Go.Proofs.Ytbjjjapdioegpaa
open Go Go.X
theorem sz0 : sizQ Try.prog 0 = some 1 := by kernel_rfl
theorem by0 : bytQ Try.prog 0 = some 0 := by kernel_rfl
theorem ag0 : aggQ Try.prog 0 = some false := by kernel_rfl
theorem iu0 : ((Try.prog).underlying 0).isSome = true := by kernel_rfl
theorem ze0 : zerQ Try.prog 0 = some (Value.tuple { toList := [] }) := by kernel_rfl
theorem sz1 : sizQ Try.prog 1 = some 1 := by kernel_rfl
theorem by1 : bytQ Try.prog 1 = some 8 := by kernel_rfl
theorem ag1 : aggQ Try.prog 1 = some false := by kernel_rfl
theorem iu1 : ((Try.prog).underlying 1).isSome = true := by kernel_rfl
theorem ze1 : zerQ Try.prog 1 = some Value.nilFunc := by kernel_rfl
theorem sz2 : sizQ Try.prog 2 = some 1 := by kernel_rfl
theorem by2 : bytQ Try.prog 2 = some 8 := by kernel_rfl
theorem ag2 : aggQ Try.prog 2 = some false := by kernel_rfl
theorem in2 : intQ Try.prog 2 = some IntKind.i64 := by kernel_rfl
theorem ui2 : (Try.prog).underlying 2 = some (.int IntKind.i64) := by kernel_rfl
theorem iu2 : ((Try.prog).underlying 2).isSome = true := by kernel_rfl
theorem ze2 : zerQ Try.prog 2 = some (Value.int IntKind.i64 0) := by kernel_rfl
theorem sz3 : sizQ Try.prog 3 = some 1 := by kernel_rfl
theorem by3 : bytQ Try.prog 3 = some 8 := by kernel_rfl
theorem ag3 : aggQ Try.prog 3 = some false := by kernel_rfl
theorem in3 : intQ Try.prog 3 = some IntKind.i64 := by kernel_rfl
theorem ui3 : (Try.prog).underlying 3 = some (.int IntKind.i64) := by kernel_rfl
theorem iu3 : ((Try.prog).underlying 3).isSome = true := by kernel_rfl
theorem ze3 : zerQ Try.prog 3 = some (Value.int IntKind.i64 0) := by kernel_rfl
theorem sz4 : sizQ Try.prog 4 = some 1 := by kernel_rfl
theorem by4 : bytQ Try.prog 4 = some 1 := by kernel_rfl
theorem ag4 : aggQ Try.prog 4 = some false := by kernel_rfl
theorem un4 : (Try.prog).underlying 4 = some .bool := by kernel_rfl
theorem iu4 : ((Try.prog).underlying 4).isSome = true := by kernel_rfl
theorem ze4 : zerQ Try.prog 4 = some (Value.bool false) := by kernel_rfl
theorem sz5 : sizQ Try.prog 5 = some 1 := by kernel_rfl
theorem by5 : bytQ Try.prog 5 = some 1 := by kernel_rfl
theorem ag5 : aggQ Try.prog 5 = some false := by kernel_rfl
theorem in5 : intQ Try.prog 5 = some IntKind.u8 := by kernel_rfl
theorem ui5 : (Try.prog).underlying 5 = some (.int IntKind.u8) := by kernel_rfl
theorem iu5 : ((Try.prog).underlying 5).isSome = true := by kernel_rfl
theorem ze5 : zerQ Try.prog 5 = some (Value.int IntKind.u8 0) := by kernel_rfl
theorem sz6 : sizQ Try.prog 6 = some 1 := by kernel_rfl
theorem by6 : bytQ Try.prog 6 = some 1 := by kernel_rfl
theorem ag6 : aggQ Try.prog 6 = some false := by kernel_rfl
theorem in6 : intQ Try.prog 6 = some IntKind.u8 := by kernel_rfl
theorem ui6 : (Try.prog).underlying 6 = some (.int IntKind.u8) := by kernel_rfl
theorem iu6 : ((Try.prog).underlying 6).isSome = true := by kernel_rfl
theorem ze6 : zerQ Try.prog 6 = some (Value.int IntKind.u8 0) := by kernel_rfl
theorem sz7 : sizQ Try.prog 7 = some 4 := by kernel_rfl
theorem by7 : bytQ Try.prog 7 = some 24 := by kernel_rfl
theorem ag7 : aggQ Try.prog 7 = some true := by kernel_rfl
theorem iu7 : ((Try.prog).underlying 7).isSome = true := by kernel_rfl
theorem fl7_0 : fldQ Try.prog 7 0 = some (0, 2) := by kernel_rfl
theorem fl7_1 : fldQ Try.prog 7 1 = some (1, 3) := by kernel_rfl
theorem fl7_2 : fldQ Try.prog 7 2 = some (2, 4) := by kernel_rfl
theorem fl7_3 : fldQ Try.prog 7 3 = some (3, 6) := by kernel_rfl
theorem pl7 : plQ Try.prog 7 = some [(0, 1), (1, 1), (2, 1), (3, 1)] := by kernel_rfl
theorem ze7 : zerQ Try.prog 7 = some
  (Value.agg
    {
      toList :=
        [Value.int IntKind.i64 0, Value.int IntKind.i64 0, Value.bool false,
          Value.int IntKind.u8 0] }) := by kernel_rfl
theorem sz8 : sizQ Try.prog 8 = some 4 := by kernel_rfl
theorem by8 : bytQ Try.prog 8 = some 24 := by kernel_rfl
theorem ag8 : aggQ Try.prog 8 = some true := by kernel_rfl
theorem iu8 : ((Try.prog).underlying 8).isSome = true := by kernel_rfl
theorem fl8_0 : fldQ Try.prog 8 0 = some (0, 2) := by kernel_rfl
theorem fl8_1 : fldQ Try.prog 8 1 = some (1, 3) := by kernel_rfl
theorem fl8_2 : fldQ Try.prog 8 2 = some (2, 4) := by kernel_rfl
theorem fl8_3 : fldQ Try.prog 8 3 = some (3, 6) := by kernel_rfl
theorem pl8 : plQ Try.prog 8 = some [(0, 1), (1, 1), (2, 1), (3, 1)] := by kernel_rfl
theorem ze8 : zerQ Try.prog 8 = some
  (Value.agg
    {
      toList :=
        [Value.int IntKind.i64 0, Value.int IntKind.i64 0, Value.bool false,
          Value.int IntKind.u8 0] }) := by kernel_rfl
theorem sz9 : sizQ Try.prog 9 = some 1 := by kernel_rfl
theorem by9 : bytQ Try.prog 9 = some 16 := by kernel_rfl
theorem ag9 : aggQ Try.prog 9 = some false := by kernel_rfl
theorem un9 : (Try.prog).underlying 9 = some .string := by kernel_rfl
theorem iu9 : ((Try.prog).underlying 9).isSome = true := by kernel_rfl
theorem ze9 : zerQ Try.prog 9 = some (Value.string { data := { toList := [] } }) := by kernel_rfl
theorem sz10 : sizQ Try.prog 10 = some 1 := by kernel_rfl
theorem by10 : bytQ Try.prog 10 = some 16 := by kernel_rfl
theorem ag10 : aggQ Try.prog 10 = some false := by kernel_rfl
theorem un10 : (Try.prog).underlying 10 = some .string := by kernel_rfl
theorem iu10 : ((Try.prog).underlying 10).isSome = true := by kernel_rfl
theorem ze10 : zerQ Try.prog 10 = some (Value.string { data := { toList := [] } }) := by kernel_rfl
theorem sz11 : sizQ Try.prog 11 = some 1 := by kernel_rfl
theorem by11 : bytQ Try.prog 11 = some 16 := by kernel_rfl
theorem ag11 : aggQ Try.prog 11 = some false := by kernel_rfl
theorem un11 : (Try.prog).underlying 11 = some .string := by kernel_rfl
theorem iu11 : ((Try.prog).underlying 11).isSome = true := by kernel_rfl
theorem ze11 : zerQ Try.prog 11 = some (Value.string { data := { toList := [] } }) := by kernel_rfl
theorem sz12 : sizQ Try.prog 12 = some 1 := by kernel_rfl
theorem by12 : bytQ Try.prog 12 = some 8 := by kernel_rfl
theorem ag12 : aggQ Try.prog 12 = some false := by kernel_rfl
theorem in12 : intQ Try.prog 12 = some IntKind.u64 := by kernel_rfl
theorem ui12 : (Try.prog).underlying 12 = some (.int IntKind.u64) := by kernel_rfl
theorem iu12 : ((Try.prog).underlying 12).isSome = true := by kernel_rfl
theorem ze12 : zerQ Try.prog 12 = some (Value.int IntKind.u64 0) := by kernel_rfl
theorem sz13 : sizQ Try.prog 13 = some 2 := by kernel_rfl
theorem by13 : bytQ Try.prog 13 = some 24 := by kernel_rfl
theorem ag13 : aggQ Try.prog 13 = some true := by kernel_rfl
theorem iu13 : ((Try.prog).underlying 13).isSome = true := by kernel_rfl
theorem fl13_0 : fldQ Try.prog 13 0 = some (0, 9) := by kernel_rfl
theorem fl13_1 : fldQ Try.prog 13 1 = some (1, 12) := by kernel_rfl
theorem pl13 : plQ Try.prog 13 = some [(0, 1), (1, 1)] := by kernel_rfl
theorem ze13 : zerQ Try.prog 13 = some (Value.agg { toList := [Value.string { data := { toList := [] } }, Value.int IntKind.u64 0] }) := by kernel_rfl
theorem sz14 : sizQ Try.prog 14 = some 2 := by kernel_rfl
theorem by14 : bytQ Try.prog 14 = some 24 := by kernel_rfl
theorem ag14 : aggQ Try.prog 14 = some true := by kernel_rfl
theorem iu14 : ((Try.prog).underlying 14).isSome = true := by kernel_rfl
theorem fl14_0 : fldQ Try.prog 14 0 = some (0, 9) := by kernel_rfl
theorem fl14_1 : fldQ Try.prog 14 1 = some (1, 12) := by kernel_rfl
theorem pl14 : plQ Try.prog 14 = some [(0, 1), (1, 1)] := by kernel_rfl
theorem ze14 : zerQ Try.prog 14 = some (Value.agg { toList := [Value.string { data := { toList := [] } }, Value.int IntKind.u64 0] }) := by kernel_rfl
theorem sz15 : sizQ Try.prog 15 = some 1 := by kernel_rfl
theorem by15 : bytQ Try.prog 15 = some 8 := by kernel_rfl
theorem ag15 : aggQ Try.prog 15 = some false := by kernel_rfl
theorem pt15 : ptrQ Try.prog 15 = true := by kernel_rfl
theorem iu15 : ((Try.prog).underlying 15).isSome = true := by kernel_rfl
theorem ze15 : zerQ Try.prog 15 = some (Value.pointer none) := by kernel_rfl
theorem sz16 : sizQ Try.prog 16 = some 1 := by kernel_rfl
theorem by16 : bytQ Try.prog 16 = some 8 := by kernel_rfl
theorem ag16 : aggQ Try.prog 16 = some false := by kernel_rfl
theorem pt16 : ptrQ Try.prog 16 = true := by kernel_rfl
theorem iu16 : ((Try.prog).underlying 16).isSome = true := by kernel_rfl
theorem ze16 : zerQ Try.prog 16 = some (Value.pointer none) := by kernel_rfl
theorem sz17 : sizQ Try.prog 17 = some 1 := by kernel_rfl
theorem by17 : bytQ Try.prog 17 = some 8 := by kernel_rfl
theorem ag17 : aggQ Try.prog 17 = some false := by kernel_rfl
theorem pt17 : ptrQ Try.prog 17 = true := by kernel_rfl
theorem iu17 : ((Try.prog).underlying 17).isSome = true := by kernel_rfl
theorem ze17 : zerQ Try.prog 17 = some (Value.pointer none) := by kernel_rfl
theorem sz18 : sizQ Try.prog 18 = some 1 := by kernel_rfl
theorem by18 : bytQ Try.prog 18 = some 8 := by kernel_rfl
theorem ag18 : aggQ Try.prog 18 = some true := by kernel_rfl
theorem iu18 : ((Try.prog).underlying 18).isSome = true := by kernel_rfl
theorem fl18_0 : fldQ Try.prog 18 0 = some (0, 17) := by kernel_rfl
theorem pl18 : plQ Try.prog 18 = some [(0, 1)] := by kernel_rfl
theorem ze18 : zerQ Try.prog 18 = some (Value.agg { toList := [Value.pointer none] }) := by kernel_rfl
theorem sz19 : sizQ Try.prog 19 = some 1 := by kernel_rfl
theorem by19 : bytQ Try.prog 19 = some 8 := by kernel_rfl
theorem ag19 : aggQ Try.prog 19 = some true := by kernel_rfl
theorem iu19 : ((Try.prog).underlying 19).isSome = true := by kernel_rfl
theorem fl19_0 : fldQ Try.prog 19 0 = some (0, 17) := by kernel_rfl
theorem pl19 : plQ Try.prog 19 = some [(0, 1)] := by kernel_rfl
theorem ze19 : zerQ Try.prog 19 = some (Value.agg { toList := [Value.pointer none] }) := by kernel_rfl
theorem sz20 : sizQ Try.prog 20 = some 1 := by kernel_rfl
theorem by20 : bytQ Try.prog 20 = some 16 := by kernel_rfl
theorem ag20 : aggQ Try.prog 20 = some false := by kernel_rfl
theorem iu20 : ((Try.prog).underlying 20).isSome = true := by kernel_rfl
theorem ze20 : zerQ Try.prog 20 = some Value.nilIface := by kernel_rfl
theorem sz21 : sizQ Try.prog 21 = some 1 := by kernel_rfl
theorem by21 : bytQ Try.prog 21 = some 4 := by kernel_rfl
theorem ag21 : aggQ Try.prog 21 = some false := by kernel_rfl
theorem in21 : intQ Try.prog 21 = some IntKind.i32 := by kernel_rfl
theorem ui21 : (Try.prog).underlying 21 = some (.int IntKind.i32) := by kernel_rfl
theorem iu21 : ((Try.prog).underlying 21).isSome = true := by kernel_rfl
theorem ze21 : zerQ Try.prog 21 = some (Value.int IntKind.i32 0) := by kernel_rfl
theorem sz22 : sizQ Try.prog 22 = some 1 := by kernel_rfl
theorem by22 : bytQ Try.prog 22 = some 4 := by kernel_rfl
theorem ag22 : aggQ Try.prog 22 = some false := by kernel_rfl
theorem in22 : intQ Try.prog 22 = some IntKind.u32 := by kernel_rfl
theorem ui22 : (Try.prog).underlying 22 = some (.int IntKind.u32) := by kernel_rfl
theorem iu22 : ((Try.prog).underlying 22).isSome = true := by kernel_rfl
theorem ze22 : zerQ Try.prog 22 = some (Value.int IntKind.u32 0) := by kernel_rfl
theorem sl23 : slQ Try.prog 23 = some 5 := by kernel_rfl
theorem sz23 : sizQ Try.prog 23 = some 1 := by kernel_rfl
theorem by23 : bytQ Try.prog 23 = some 24 := by kernel_rfl
theorem ag23 : aggQ Try.prog 23 = some false := by kernel_rfl
theorem us23 : (Try.prog).underlying 23 = some (.slice 5) := by kernel_rfl
theorem iu23 : ((Try.prog).underlying 23).isSome = true := by kernel_rfl
theorem ze23 : zerQ Try.prog 23 = some (Value.slice none 0 0) := by kernel_rfl
theorem sz24 : sizQ Try.prog 24 = some 4 := by kernel_rfl
theorem by24 : bytQ Try.prog 24 = some 48 := by kernel_rfl
theorem ag24 : aggQ Try.prog 24 = some true := by kernel_rfl
theorem iu24 : ((Try.prog).underlying 24).isSome = true := by kernel_rfl
theorem fl24_0 : fldQ Try.prog 24 0 = some (0, 22) := by kernel_rfl
theorem fl24_1 : fldQ Try.prog 24 1 = some (1, 3) := by kernel_rfl
theorem fl24_2 : fldQ Try.prog 24 2 = some (2, 3) := by kernel_rfl
theorem fl24_3 : fldQ Try.prog 24 3 = some (3, 23) := by kernel_rfl
theorem pl24 : plQ Try.prog 24 = some [(0, 1), (1, 1), (2, 1), (3, 1)] := by kernel_rfl
theorem ze24 : zerQ Try.prog 24 = some
  (Value.agg
    {
      toList :=
        [Value.int IntKind.u32 0, Value.int IntKind.i64 0, Value.int IntKind.i64 0,
          Value.slice none 0 0] }) := by kernel_rfl
theorem sz25 : sizQ Try.prog 25 = some 4 := by kernel_rfl
theorem by25 : bytQ Try.prog 25 = some 48 := by kernel_rfl
theorem ag25 : aggQ Try.prog 25 = some true := by kernel_rfl
theorem iu25 : ((Try.prog).underlying 25).isSome = true := by kernel_rfl
theorem fl25_0 : fldQ Try.prog 25 0 = some (0, 22) := by kernel_rfl
theorem fl25_1 : fldQ Try.prog 25 1 = some (1, 3) := by kernel_rfl
theorem fl25_2 : fldQ Try.prog 25 2 = some (2, 3) := by kernel_rfl
theorem fl25_3 : fldQ Try.prog 25 3 = some (3, 23) := by kernel_rfl
theorem pl25 : plQ Try.prog 25 = some [(0, 1), (1, 1), (2, 1), (3, 1)] := by kernel_rfl
theorem ze25 : zerQ Try.prog 25 = some
  (Value.agg
    {
      toList :=
        [Value.int IntKind.u32 0, Value.int IntKind.i64 0, Value.int IntKind.i64 0,
          Value.slice none 0 0] }) := by kernel_rfl
theorem sz26 : sizQ Try.prog 26 = some 1 := by kernel_rfl
theorem by26 : bytQ Try.prog 26 = some 8 := by kernel_rfl
theorem ag26 : aggQ Try.prog 26 = some false := by kernel_rfl
theorem iu26 : ((Try.prog).underlying 26).isSome = true := by kernel_rfl
theorem ze26 : zerQ Try.prog 26 = some Value.nilFunc := by kernel_rfl
theorem sz27 : sizQ Try.prog 27 = some 4 := by kernel_rfl
theorem by27 : bytQ Try.prog 27 = some 40 := by kernel_rfl
theorem ag27 : aggQ Try.prog 27 = some true := by kernel_rfl
theorem iu27 : ((Try.prog).underlying 27).isSome = true := by kernel_rfl
theorem fl27_0 : fldQ Try.prog 27 0 = some (0, 22) := by kernel_rfl
theorem fl27_1 : fldQ Try.prog 27 1 = some (1, 3) := by kernel_rfl
theorem fl27_2 : fldQ Try.prog 27 2 = some (2, 3) := by kernel_rfl
theorem fl27_3 : fldQ Try.prog 27 3 = some (3, 9) := by kernel_rfl
theorem pl27 : plQ Try.prog 27 = some [(0, 1), (1, 1), (2, 1), (3, 1)] := by kernel_rfl
theorem ze27 : zerQ Try.prog 27 = some
  (Value.agg
    {
      toList :=
        [Value.int IntKind.u32 0, Value.int IntKind.i64 0, Value.int IntKind.i64 0,
          Value.string { data := { toList := [] } }] }) := by kernel_rfl
theorem sz28 : sizQ Try.prog 28 = some 4 := by kernel_rfl
theorem by28 : bytQ Try.prog 28 = some 40 := by kernel_rfl
theorem ag28 : aggQ Try.prog 28 = some true := by kernel_rfl
theorem iu28 : ((Try.prog).underlying 28).isSome = true := by kernel_rfl
theorem fl28_0 : fldQ Try.prog 28 0 = some (0, 22) := by kernel_rfl
theorem fl28_1 : fldQ Try.prog 28 1 = some (1, 3) := by kernel_rfl
theorem fl28_2 : fldQ Try.prog 28 2 = some (2, 3) := by kernel_rfl
theorem fl28_3 : fldQ Try.prog 28 3 = some (3, 9) := by kernel_rfl
theorem pl28 : plQ Try.prog 28 = some [(0, 1), (1, 1), (2, 1), (3, 1)] := by kernel_rfl
theorem ze28 : zerQ Try.prog 28 = some
  (Value.agg
    {
      toList :=
        [Value.int IntKind.u32 0, Value.int IntKind.i64 0, Value.int IntKind.i64 0,
          Value.string { data := { toList := [] } }] }) := by kernel_rfl
theorem sz29 : sizQ Try.prog 29 = some 1 := by kernel_rfl
theorem by29 : bytQ Try.prog 29 = some 0 := by kernel_rfl
theorem ag29 : aggQ Try.prog 29 = some false := by kernel_rfl
theorem iu29 : ((Try.prog).underlying 29).isSome = true := by kernel_rfl
theorem ze29 : zerQ Try.prog 29 = some (Value.tuple { toList := [Value.slice none 0 0, Value.int IntKind.i64 0] }) := by kernel_rfl
theorem sz30 : sizQ Try.prog 30 = some 1 := by kernel_rfl
theorem by30 : bytQ Try.prog 30 = some 8 := by kernel_rfl
theorem ag30 : aggQ Try.prog 30 = some false := by kernel_rfl
theorem iu30 : ((Try.prog).underlying 30).isSome = true := by kernel_rfl
theorem ze30 : zerQ Try.prog 30 = some Value.nilFunc := by kernel_rfl
theorem sz31 : sizQ Try.prog 31 = some 4 := by kernel_rfl
theorem by31 : bytQ Try.prog 31 = some 48 := by kernel_rfl
theorem ag31 : aggQ Try.prog 31 = some true := by kernel_rfl
theorem iu31 : ((Try.prog).underlying 31).isSome = true := by kernel_rfl
theorem fl31_0 : fldQ Try.prog 31 0 = some (0, 22) := by kernel_rfl
theorem fl31_1 : fldQ Try.prog 31 1 = some (1, 3) := by kernel_rfl
theorem fl31_2 : fldQ Try.prog 31 2 = some (2, 3) := by kernel_rfl
theorem fl31_3 : fldQ Try.prog 31 3 = some (3, 23) := by kernel_rfl
theorem pl31 : plQ Try.prog 31 = some [(0, 1), (1, 1), (2, 1), (3, 1)] := by kernel_rfl
theorem ze31 : zerQ Try.prog 31 = some
  (Value.agg
    {
      toList :=
        [Value.int IntKind.u32 0, Value.int IntKind.i64 0, Value.int IntKind.i64 0,
          Value.slice none 0 0] }) := by kernel_rfl
theorem sz32 : sizQ Try.prog 32 = some 1 := by kernel_rfl
theorem by32 : bytQ Try.prog 32 = some 0 := by kernel_rfl
theorem ag32 : aggQ Try.prog 32 = some false := by kernel_rfl
theorem iu32 : ((Try.prog).underlying 32).isSome = true := by kernel_rfl
theorem ze32 : zerQ Try.prog 32 = some (Value.tuple { toList := [Value.string { data := { toList := [] } }, Value.int IntKind.i64 0] }) := by kernel_rfl
theorem sz33 : sizQ Try.prog 33 = some 1 := by kernel_rfl
theorem by33 : bytQ Try.prog 33 = some 8 := by kernel_rfl
theorem ag33 : aggQ Try.prog 33 = some false := by kernel_rfl
theorem iu33 : ((Try.prog).underlying 33).isSome = true := by kernel_rfl
theorem ze33 : zerQ Try.prog 33 = some Value.nilFunc := by kernel_rfl
theorem sz34 : sizQ Try.prog 34 = some 1 := by kernel_rfl
theorem by34 : bytQ Try.prog 34 = some 0 := by kernel_rfl
theorem ag34 : aggQ Try.prog 34 = some false := by kernel_rfl
theorem iu34 : ((Try.prog).underlying 34).isSome = true := by kernel_rfl
theorem ze34 : zerQ Try.prog 34 = some
  (Value.tuple
    {
      toList :=
        [Value.agg
            {
              toList :=
                [Value.int IntKind.u32 0, Value.int IntKind.i64 0,
                  Value.int IntKind.i64 0, Value.slice none 0 0] },
          Value.bool false, Value.int IntKind.i64 0] }) := by kernel_rfl
theorem sz35 : sizQ Try.prog 35 = some 1 := by kernel_rfl
theorem by35 : bytQ Try.prog 35 = some 8 := by kernel_rfl
theorem ag35 : aggQ Try.prog 35 = some false := by kernel_rfl
theorem iu35 : ((Try.prog).underlying 35).isSome = true := by kernel_rfl
theorem ze35 : zerQ Try.prog 35 = some Value.nilFunc := by kernel_rfl
theorem sz36 : sizQ Try.prog 36 = some 1 := by kernel_rfl
theorem by36 : bytQ Try.prog 36 = some 0 := by kernel_rfl
theorem ag36 : aggQ Try.prog 36 = some false := by kernel_rfl
theorem iu36 : ((Try.prog).underlying 36).isSome = true := by kernel_rfl
theorem ze36 : zerQ Try.prog 36 = some
  (Value.tuple
    {
      toList :=
        [Value.agg
            {
              toList :=
                [Value.int IntKind.u32 0, Value.int IntKind.i64 0,
                  Value.int IntKind.i64 0, Value.string { data := { toList := [] } }] },
          Value.bool false, Value.int IntKind.i64 0] }) := by kernel_rfl
theorem sz37 : sizQ Try.prog 37 = some 1 := by kernel_rfl
theorem by37 : bytQ Try.prog 37 = some 8 := by kernel_rfl
theorem ag37 : aggQ Try.prog 37 = some false := by kernel_rfl
theorem iu37 : ((Try.prog).underlying 37).isSome = true := by kernel_rfl
theorem ze37 : zerQ Try.prog 37 = some Value.nilFunc := by kernel_rfl
theorem sz38 : sizQ Try.prog 38 = some 1 := by kernel_rfl
theorem by38 : bytQ Try.prog 38 = some 8 := by kernel_rfl
theorem ag38 : aggQ Try.prog 38 = some false := by kernel_rfl
theorem iu38 : ((Try.prog).underlying 38).isSome = true := by kernel_rfl
theorem ze38 : zerQ Try.prog 38 = some Value.nilFunc := by kernel_rfl
theorem sz39 : sizQ Try.prog 39 = some 1 := by kernel_rfl
theorem by39 : bytQ Try.prog 39 = some 8 := by kernel_rfl
theorem ag39 : aggQ Try.prog 39 = some false := by kernel_rfl
theorem iu39 : ((Try.prog).underlying 39).isSome = true := by kernel_rfl
theorem ze39 : zerQ Try.prog 39 = some Value.nilFunc := by kernel_rfl
theorem sz40 : sizQ Try.prog 40 = some 1 := by kernel_rfl
theorem by40 : bytQ Try.prog 40 = some 8 := by kernel_rfl
theorem ag40 : aggQ Try.prog 40 = some false := by kernel_rfl
theorem iu40 : ((Try.prog).underlying 40).isSome = true := by kernel_rfl
theorem ze40 : zerQ Try.prog 40 = some Value.nilFunc := by kernel_rfl
theorem sz41 : sizQ Try.prog 41 = some 1 := by kernel_rfl
theorem by41 : bytQ Try.prog 41 = some 8 := by kernel_rfl
theorem ag41 : aggQ Try.prog 41 = some false := by kernel_rfl
theorem iu41 : ((Try.prog).underlying 41).isSome = true := by kernel_rfl
theorem ze41 : zerQ Try.prog 41 = some Value.nilFunc := by kernel_rfl
theorem sz42 : sizQ Try.prog 42 = some 1 := by kernel_rfl
theorem by42 : bytQ Try.prog 42 = some 8 := by kernel_rfl
theorem ag42 : aggQ Try.prog 42 = some false := by kernel_rfl
theorem iu42 : ((Try.prog).underlying 42).isSome = true := by kernel_rfl
theorem ze42 : zerQ Try.prog 42 = some Value.nilFunc := by kernel_rfl
theorem sz43 : sizQ Try.prog 43 = some 1 := by kernel_rfl
theorem by43 : bytQ Try.prog 43 = some 8 := by kernel_rfl
theorem ag43 : aggQ Try.prog 43 = some false := by kernel_rfl
theorem iu43 : ((Try.prog).underlying 43).isSome = true := by kernel_rfl
theorem ze43 : zerQ Try.prog 43 = some Value.nilFunc := by kernel_rfl
theorem sz44 : sizQ Try.prog 44 = some 1 := by kernel_rfl
theorem by44 : bytQ Try.prog 44 = some 8 := by kernel_rfl
theorem ag44 : aggQ Try.prog 44 = some false := by kernel_rfl
theorem iu44 : ((Try.prog).underlying 44).isSome = true := by kernel_rfl
theorem ze44 : zerQ Try.prog 44 = some Value.nilFunc := by kernel_rfl
theorem sz45 : sizQ Try.prog 45 = some 1 := by kernel_rfl
theorem by45 : bytQ Try.prog 45 = some 8 := by kernel_rfl
theorem ag45 : aggQ Try.prog 45 = some false := by kernel_rfl
theorem iu45 : ((Try.prog).underlying 45).isSome = true := by kernel_rfl
theorem ze45 : zerQ Try.prog 45 = some Value.nilFunc := by kernel_rfl
theorem sz46 : sizQ Try.prog 46 = some 1 := by kernel_rfl
theorem by46 : bytQ Try.prog 46 = some 8 := by kernel_rfl
theorem ag46 : aggQ Try.prog 46 = some false := by kernel_rfl
theorem in46 : intQ Try.prog 46 = some IntKind.u64 := by kernel_rfl
theorem ui46 : (Try.prog).underlying 46 = some (.int IntKind.u64) := by kernel_rfl
theorem iu46 : ((Try.prog).underlying 46).isSome = true := by kernel_rfl
theorem ze46 : zerQ Try.prog 46 = some (Value.int IntKind.u64 0) := by kernel_rfl
theorem sz47 : sizQ Try.prog 47 = some 1 := by kernel_rfl
theorem by47 : bytQ Try.prog 47 = some 8 := by kernel_rfl
theorem ag47 : aggQ Try.prog 47 = some false := by kernel_rfl
theorem iu47 : ((Try.prog).underlying 47).isSome = true := by kernel_rfl
theorem ze47 : zerQ Try.prog 47 = some Value.nilFunc := by kernel_rfl
theorem sz48 : sizQ Try.prog 48 = some 1 := by kernel_rfl
theorem by48 : bytQ Try.prog 48 = some 8 := by kernel_rfl
theorem ag48 : aggQ Try.prog 48 = some false := by kernel_rfl
theorem iu48 : ((Try.prog).underlying 48).isSome = true := by kernel_rfl
theorem ze48 : zerQ Try.prog 48 = some Value.nilFunc := by kernel_rfl
theorem sz49 : sizQ Try.prog 49 = some 1 := by kernel_rfl
theorem by49 : bytQ Try.prog 49 = some 8 := by kernel_rfl
theorem ag49 : aggQ Try.prog 49 = some false := by kernel_rfl
theorem iu49 : ((Try.prog).underlying 49).isSome = true := by kernel_rfl
theorem ze49 : zerQ Try.prog 49 = some Value.nilFunc := by kernel_rfl
theorem sz50 : sizQ Try.prog 50 = some 1 := by kernel_rfl
theorem by50 : bytQ Try.prog 50 = some 8 := by kernel_rfl
theorem ag50 : aggQ Try.prog 50 = some false := by kernel_rfl
theorem iu50 : ((Try.prog).underlying 50).isSome = true := by kernel_rfl
theorem ze50 : zerQ Try.prog 50 = some Value.nilFunc := by kernel_rfl
theorem sl51 : slQ Try.prog 51 = some 22 := by kernel_rfl
theorem sz51 : sizQ Try.prog 51 = some 1 := by kernel_rfl
theorem by51 : bytQ Try.prog 51 = some 24 := by kernel_rfl
theorem ag51 : aggQ Try.prog 51 = some false := by kernel_rfl
theorem us51 : (Try.prog).underlying 51 = some (.slice 22) := by kernel_rfl
theorem iu51 : ((Try.prog).underlying 51).isSome = true := by kernel_rfl
theorem ze51 : zerQ Try.prog 51 = some (Value.slice none 0 0) := by kernel_rfl
theorem sl52 : slQ Try.prog 52 = some 3 := by kernel_rfl
theorem sz52 : sizQ Try.prog 52 = some 1 := by kernel_rfl
theorem by52 : bytQ Try.prog 52 = some 24 := by kernel_rfl
theorem ag52 : aggQ Try.prog 52 = some false := by kernel_rfl
theorem us52 : (Try.prog).underlying 52 = some (.slice 3) := by kernel_rfl
theorem iu52 : ((Try.prog).underlying 52).isSome = true := by kernel_rfl
theorem ze52 : zerQ Try.prog 52 = some (Value.slice none 0 0) := by kernel_rfl
theorem sz53 : sizQ Try.prog 53 = some 1 := by kernel_rfl
theorem by53 : bytQ Try.prog 53 = some 8 := by kernel_rfl
theorem ag53 : aggQ Try.prog 53 = some false := by kernel_rfl
theorem iu53 : ((Try.prog).underlying 53).isSome = true := by kernel_rfl
theorem ze53 : zerQ Try.prog 53 = some Value.nilFunc := by kernel_rfl
theorem sz54 : sizQ Try.prog 54 = some 1 := by kernel_rfl
theorem by54 : bytQ Try.prog 54 = some 8 := by kernel_rfl
theorem ag54 : aggQ Try.prog 54 = some false := by kernel_rfl
theorem iu54 : ((Try.prog).underlying 54).isSome = true := by kernel_rfl
theorem ze54 : zerQ Try.prog 54 = some Value.nilFunc := by kernel_rfl
theorem sz55 : sizQ Try.prog 55 = some 1 := by kernel_rfl
theorem by55 : bytQ Try.prog 55 = some 8 := by kernel_rfl
theorem ag55 : aggQ Try.prog 55 = some false := by kernel_rfl
theorem in55 : intQ Try.prog 55 = some IntKind.u64 := by kernel_rfl
theorem ui55 : (Try.prog).underlying 55 = some (.int IntKind.u64) := by kernel_rfl
theorem iu55 : ((Try.prog).underlying 55).isSome = true := by kernel_rfl
theorem ze55 : zerQ Try.prog 55 = some (Value.int IntKind.u64 0) := by kernel_rfl
theorem sz56 : sizQ Try.prog 56 = some 1 := by kernel_rfl
theorem by56 : bytQ Try.prog 56 = some 8 := by kernel_rfl
theorem ag56 : aggQ Try.prog 56 = some false := by kernel_rfl
theorem iu56 : ((Try.prog).underlying 56).isSome = true := by kernel_rfl
theorem ze56 : zerQ Try.prog 56 = some Value.nilFunc := by kernel_rfl
theorem sz57 : sizQ Try.prog 57 = some 1 := by kernel_rfl
theorem by57 : bytQ Try.prog 57 = some 0 := by kernel_rfl
theorem ag57 : aggQ Try.prog 57 = some false := by kernel_rfl
theorem iu57 : ((Try.prog).underlying 57).isSome = true := by kernel_rfl
theorem ze57 : zerQ Try.prog 57 = some (Value.tuple { toList := [Value.int IntKind.u32 0, Value.bool false] }) := by kernel_rfl
theorem sz58 : sizQ Try.prog 58 = some 1 := by kernel_rfl
theorem by58 : bytQ Try.prog 58 = some 8 := by kernel_rfl
theorem ag58 : aggQ Try.prog 58 = some false := by kernel_rfl
theorem iu58 : ((Try.prog).underlying 58).isSome = true := by kernel_rfl
theorem ze58 : zerQ Try.prog 58 = some Value.nilFunc := by kernel_rfl
theorem sz59 : sizQ Try.prog 59 = some 1 := by kernel_rfl
theorem by59 : bytQ Try.prog 59 = some 8 := by kernel_rfl
theorem ag59 : aggQ Try.prog 59 = some false := by kernel_rfl
theorem iu59 : ((Try.prog).underlying 59).isSome = true := by kernel_rfl
theorem ze59 : zerQ Try.prog 59 = some Value.nilFunc := by kernel_rfl
theorem sz60 : sizQ Try.prog 60 = some 1 := by kernel_rfl
theorem by60 : bytQ Try.prog 60 = some 8 := by kernel_rfl
theorem ag60 : aggQ Try.prog 60 = some false := by kernel_rfl
theorem iu60 : ((Try.prog).underlying 60).isSome = true := by kernel_rfl
theorem ze60 : zerQ Try.prog 60 = some Value.nilFunc := by kernel_rfl
theorem sz61 : sizQ Try.prog 61 = some 1 := by kernel_rfl
theorem by61 : bytQ Try.prog 61 = some 0 := by kernel_rfl
theorem ag61 : aggQ Try.prog 61 = some false := by kernel_rfl
theorem iu61 : ((Try.prog).underlying 61).isSome = true := by kernel_rfl
theorem ze61 : zerQ Try.prog 61 = some (Value.tuple { toList := [Value.int IntKind.u64 0, Value.int IntKind.i64 0] }) := by kernel_rfl
theorem sz62 : sizQ Try.prog 62 = some 1 := by kernel_rfl
theorem by62 : bytQ Try.prog 62 = some 8 := by kernel_rfl
theorem ag62 : aggQ Try.prog 62 = some false := by kernel_rfl
theorem iu62 : ((Try.prog).underlying 62).isSome = true := by kernel_rfl
theorem ze62 : zerQ Try.prog 62 = some Value.nilFunc := by kernel_rfl
theorem sz63 : sizQ Try.prog 63 = some 1 := by kernel_rfl
theorem by63 : bytQ Try.prog 63 = some 8 := by kernel_rfl
theorem ag63 : aggQ Try.prog 63 = some false := by kernel_rfl
theorem iu63 : ((Try.prog).underlying 63).isSome = true := by kernel_rfl
theorem ze63 : zerQ Try.prog 63 = some Value.nilFunc := by kernel_rfl
theorem sz64 : sizQ Try.prog 64 = some 1 := by kernel_rfl
theorem by64 : bytQ Try.prog 64 = some 8 := by kernel_rfl
theorem ag64 : aggQ Try.prog 64 = some false := by kernel_rfl
theorem iu64 : ((Try.prog).underlying 64).isSome = true := by kernel_rfl
theorem ze64 : zerQ Try.prog 64 = some Value.nilFunc := by kernel_rfl
theorem sz65 : sizQ Try.prog 65 = some 4 := by kernel_rfl
theorem by65 : bytQ Try.prog 65 = some 40 := by kernel_rfl
theorem ag65 : aggQ Try.prog 65 = some true := by kernel_rfl
theorem iu65 : ((Try.prog).underlying 65).isSome = true := by kernel_rfl
theorem fl65_0 : fldQ Try.prog 65 0 = some (0, 17) := by kernel_rfl
theorem fl65_1 : fldQ Try.prog 65 1 = some (1, 17) := by kernel_rfl
theorem fl65_2 : fldQ Try.prog 65 2 = some (2, 17) := by kernel_rfl
theorem fl65_3 : fldQ Try.prog 65 3 = some (3, 9) := by kernel_rfl
theorem pl65 : plQ Try.prog 65 = some [(0, 1), (1, 1), (2, 1), (3, 1)] := by kernel_rfl
theorem ze65 : zerQ Try.prog 65 = some
  (Value.agg
    {
      toList :=
        [Value.pointer none, Value.pointer none, Value.pointer none, Value.string { data := { toList := [] } }] }) := by kernel_rfl
theorem sz66 : sizQ Try.prog 66 = some 4 := by kernel_rfl
theorem by66 : bytQ Try.prog 66 = some 40 := by kernel_rfl
theorem ag66 : aggQ Try.prog 66 = some true := by kernel_rfl
theorem iu66 : ((Try.prog).underlying 66).isSome = true := by kernel_rfl
theorem fl66_0 : fldQ Try.prog 66 0 = some (0, 17) := by kernel_rfl
theorem fl66_1 : fldQ Try.prog 66 1 = some (1, 17) := by kernel_rfl
theorem fl66_2 : fldQ Try.prog 66 2 = some (2, 17) := by kernel_rfl
theorem fl66_3 : fldQ Try.prog 66 3 = some (3, 9) := by kernel_rfl
theorem pl66 : plQ Try.prog 66 = some [(0, 1), (1, 1), (2, 1), (3, 1)] := by kernel_rfl
theorem ze66 : zerQ Try.prog 66 = some
  (Value.agg
    {
      toList :=
        [Value.pointer none, Value.pointer none, Value.pointer none, Value.string { data := { toList := [] } }] }) := by kernel_rfl
theorem sz67 : sizQ Try.prog 67 = some 0 := by kernel_rfl
theorem by67 : bytQ Try.prog 67 = some 0 := by kernel_rfl
theorem ag67 : aggQ Try.prog 67 = some true := by kernel_rfl
theorem ar67 : arQ Try.prog 67 = some (0, 16) := by kernel_rfl
theorem iu67 : ((Try.prog).underlying 67).isSome = true := by kernel_rfl
theorem ze67 : zerQ Try.prog 67 = some (Value.agg { toList := [] }) := by kernel_rfl
theorem sz68 : sizQ Try.prog 68 = some 0 := by kernel_rfl
theorem by68 : bytQ Try.prog 68 = some 0 := by kernel_rfl
theorem ag68 : aggQ Try.prog 68 = some true := by kernel_rfl
theorem iu68 : ((Try.prog).underlying 68).isSome = true := by kernel_rfl
theorem fl68_0 : fldQ Try.prog 68 0 = some (0, 67) := by kernel_rfl
theorem pl68 : plQ Try.prog 68 = some [(0, 0)] := by kernel_rfl
theorem ze68 : zerQ Try.prog 68 = some (Value.agg { toList := [] }) := by kernel_rfl
theorem sz69 : sizQ Try.prog 69 = some 0 := by kernel_rfl
theorem by69 : bytQ Try.prog 69 = some 0 := by kernel_rfl
theorem ag69 : aggQ Try.prog 69 = some true := by kernel_rfl
theorem iu69 : ((Try.prog).underlying 69).isSome = true := by kernel_rfl
theorem fl69_0 : fldQ Try.prog 69 0 = some (0, 67) := by kernel_rfl
theorem pl69 : plQ Try.prog 69 = some [(0, 0)] := by kernel_rfl
theorem ze69 : zerQ Try.prog 69 = some (Value.agg { toList := [] }) := by kernel_rfl
theorem sz70 : sizQ Try.prog 70 = some 1 := by kernel_rfl
theorem by70 : bytQ Try.prog 70 = some 8 := by kernel_rfl
theorem ag70 : aggQ Try.prog 70 = some false := by kernel_rfl
theorem iu70 : ((Try.prog).underlying 70).isSome = true := by kernel_rfl
theorem ze70 : zerQ Try.prog 70 = some Value.nilFunc := by kernel_rfl
theorem sz71 : sizQ Try.prog 71 = some 1 := by kernel_rfl
theorem by71 : bytQ Try.prog 71 = some 1 := by kernel_rfl
theorem ag71 : aggQ Try.prog 71 = some false := by kernel_rfl
theorem in71 : intQ Try.prog 71 = some IntKind.u8 := by kernel_rfl
theorem ui71 : (Try.prog).underlying 71 = some (.int IntKind.u8) := by kernel_rfl
theorem iu71 : ((Try.prog).underlying 71).isSome = true := by kernel_rfl
theorem ze71 : zerQ Try.prog 71 = some (Value.int IntKind.u8 0) := by kernel_rfl
theorem sz72 : sizQ Try.prog 72 = some 1 := by kernel_rfl
theorem by72 : bytQ Try.prog 72 = some 1 := by kernel_rfl
theorem ag72 : aggQ Try.prog 72 = some false := by kernel_rfl
theorem in72 : intQ Try.prog 72 = some IntKind.u8 := by kernel_rfl
theorem ui72 : (Try.prog).underlying 72 = some (.int IntKind.u8) := by kernel_rfl
theorem iu72 : ((Try.prog).underlying 72).isSome = true := by kernel_rfl
theorem ze72 : zerQ Try.prog 72 = some (Value.int IntKind.u8 0) := by kernel_rfl
theorem sz73 : sizQ Try.prog 73 = some 1 := by kernel_rfl
theorem by73 : bytQ Try.prog 73 = some 8 := by kernel_rfl
theorem ag73 : aggQ Try.prog 73 = some false := by kernel_rfl
theorem iu73 : ((Try.prog).underlying 73).isSome = true := by kernel_rfl
theorem ze73 : zerQ Try.prog 73 = some Value.nilFunc := by kernel_rfl
theorem sz74 : sizQ Try.prog 74 = some 1 := by kernel_rfl
theorem by74 : bytQ Try.prog 74 = some 8 := by kernel_rfl
theorem ag74 : aggQ Try.prog 74 = some false := by kernel_rfl
theorem pt74 : ptrQ Try.prog 74 = true := by kernel_rfl
theorem iu74 : ((Try.prog).underlying 74).isSome = true := by kernel_rfl
theorem ze74 : zerQ Try.prog 74 = some (Value.pointer none) := by kernel_rfl
theorem sz75 : sizQ Try.prog 75 = some 1 := by kernel_rfl
theorem by75 : bytQ Try.prog 75 = some 4 := by kernel_rfl
theorem ag75 : aggQ Try.prog 75 = some false := by kernel_rfl
theorem in75 : intQ Try.prog 75 = some IntKind.i32 := by kernel_rfl
theorem ui75 : (Try.prog).underlying 75 = some (.int IntKind.i32) := by kernel_rfl
theorem iu75 : ((Try.prog).underlying 75).isSome = true := by kernel_rfl
theorem ze75 : zerQ Try.prog 75 = some (Value.int IntKind.i32 0) := by kernel_rfl
theorem sz76 : sizQ Try.prog 76 = some 1 := by kernel_rfl
theorem by76 : bytQ Try.prog 76 = some 4 := by kernel_rfl
theorem ag76 : aggQ Try.prog 76 = some false := by kernel_rfl
theorem in76 : intQ Try.prog 76 = some IntKind.i32 := by kernel_rfl
theorem ui76 : (Try.prog).underlying 76 = some (.int IntKind.i32) := by kernel_rfl
theorem iu76 : ((Try.prog).underlying 76).isSome = true := by kernel_rfl
theorem ze76 : zerQ Try.prog 76 = some (Value.int IntKind.i32 0) := by kernel_rfl
theorem sz77 : sizQ Try.prog 77 = some 11 := by kernel_rfl
theorem by77 : bytQ Try.prog 77 = some 48 := by kernel_rfl
theorem ag77 : aggQ Try.prog 77 = some true := by kernel_rfl
theorem iu77 : ((Try.prog).underlying 77).isSome = true := by kernel_rfl
theorem fl77_0 : fldQ Try.prog 77 0 = some (0, 12) := by kernel_rfl
theorem fl77_1 : fldQ Try.prog 77 1 = some (1, 12) := by kernel_rfl
theorem fl77_2 : fldQ Try.prog 77 2 = some (2, 22) := by kernel_rfl
theorem fl77_3 : fldQ Try.prog 77 3 = some (3, 71) := by kernel_rfl
theorem fl77_4 : fldQ Try.prog 77 4 = some (4, 5) := by kernel_rfl
theorem fl77_5 : fldQ Try.prog 77 5 = some (5, 5) := by kernel_rfl
theorem fl77_6 : fldQ Try.prog 77 6 = some (6, 72) := by kernel_rfl
theorem fl77_7 : fldQ Try.prog 77 7 = some (7, 73) := by kernel_rfl
theorem fl77_8 : fldQ Try.prog 77 8 = some (8, 74) := by kernel_rfl
theorem fl77_9 : fldQ Try.prog 77 9 = some (9, 75) := by kernel_rfl
theorem fl77_10 : fldQ Try.prog 77 10 = some (10, 76) := by kernel_rfl
theorem pl77 : plQ Try.prog 77 = some [(0, 1), (1, 1), (2, 1), (3, 1), (4, 1), (5, 1), (6, 1), (7, 1), (8, 1), (9, 1), (10, 1)] := by kernel_rfl
theorem ze77 : zerQ Try.prog 77 = some
  (Value.agg
    {
      toList :=
        [Value.int IntKind.u64 0, Value.int IntKind.u64 0, Value.int IntKind.u32 0,
          Value.int IntKind.u8 0, Value.int IntKind.u8 0, Value.int IntKind.u8 0,
          Value.int IntKind.u8 0, Value.nilFunc, Value.pointer none, Value.int IntKind.i32 0,
          Value.int IntKind.i32 0] }) := by kernel_rfl
theorem sz78 : sizQ Try.prog 78 = some 11 := by kernel_rfl
theorem by78 : bytQ Try.prog 78 = some 48 := by kernel_rfl
theorem ag78 : aggQ Try.prog 78 = some true := by kernel_rfl
theorem iu78 : ((Try.prog).underlying 78).isSome = true := by kernel_rfl
theorem fl78_0 : fldQ Try.prog 78 0 = some (0, 12) := by kernel_rfl
theorem fl78_1 : fldQ Try.prog 78 1 = some (1, 12) := by kernel_rfl
theorem fl78_2 : fldQ Try.prog 78 2 = some (2, 22) := by kernel_rfl
theorem fl78_3 : fldQ Try.prog 78 3 = some (3, 71) := by kernel_rfl
theorem fl78_4 : fldQ Try.prog 78 4 = some (4, 5) := by kernel_rfl
theorem fl78_5 : fldQ Try.prog 78 5 = some (5, 5) := by kernel_rfl
theorem fl78_6 : fldQ Try.prog 78 6 = some (6, 72) := by kernel_rfl
theorem fl78_7 : fldQ Try.prog 78 7 = some (7, 73) := by kernel_rfl
theorem fl78_8 : fldQ Try.prog 78 8 = some (8, 74) := by kernel_rfl
theorem fl78_9 : fldQ Try.prog 78 9 = some (9, 75) := by kernel_rfl
theorem fl78_10 : fldQ Try.prog 78 10 = some (10, 76) := by kernel_rfl
theorem pl78 : plQ Try.prog 78 = some [(0, 1), (1, 1), (2, 1), (3, 1), (4, 1), (5, 1), (6, 1), (7, 1), (8, 1), (9, 1), (10, 1)] := by kernel_rfl
theorem ze78 : zerQ Try.prog 78 = some
  (Value.agg
    {
      toList :=
        [Value.int IntKind.u64 0, Value.int IntKind.u64 0, Value.int IntKind.u32 0,
          Value.int IntKind.u8 0, Value.int IntKind.u8 0, Value.int IntKind.u8 0,
          Value.int IntKind.u8 0, Value.nilFunc, Value.pointer none, Value.int IntKind.i32 0,
          Value.int IntKind.i32 0] }) := by kernel_rfl
theorem sz79 : sizQ Try.prog 79 = some 1 := by kernel_rfl
theorem by79 : bytQ Try.prog 79 = some 8 := by kernel_rfl
theorem ag79 : aggQ Try.prog 79 = some false := by kernel_rfl
theorem iu79 : ((Try.prog).underlying 79).isSome = true := by kernel_rfl
theorem ze79 : zerQ Try.prog 79 = some (Value.pointer none) := by kernel_rfl
theorem go2 : goQ Try.prog 2 = true := by kernel_rfl
theorem go3 : goQ Try.prog 3 = true := by kernel_rfl
theorem go4 : goQ Try.prog 4 = true := by kernel_rfl
theorem go5 : goQ Try.prog 5 = true := by kernel_rfl
theorem go6 : goQ Try.prog 6 = true := by kernel_rfl
theorem go7 : goQ Try.prog 7 = true := by kernel_rfl
theorem go8 : goQ Try.prog 8 = true := by kernel_rfl
theorem go9 : goQ Try.prog 9 = true := by kernel_rfl
theorem go10 : goQ Try.prog 10 = true := by kernel_rfl
theorem go11 : goQ Try.prog 11 = true := by kernel_rfl
theorem go12 : goQ Try.prog 12 = true := by kernel_rfl
theorem go13 : goQ Try.prog 13 = true := by kernel_rfl
theorem go14 : goQ Try.prog 14 = true := by kernel_rfl
theorem go15 : goQ Try.prog 15 = true := by kernel_rfl
theorem go16 : goQ Try.prog 16 = true := by kernel_rfl
theorem go17 : goQ Try.prog 17 = true := by kernel_rfl
theorem go18 : goQ Try.prog 18 = true := by kernel_rfl
theorem go19 : goQ Try.prog 19 = true := by kernel_rfl
theorem go20 : goQ Try.prog 20 = true := by kernel_rfl
theorem go21 : goQ Try.prog 21 = true := by kernel_rfl
theorem go22 : goQ Try.prog 22 = true := by kernel_rfl
theorem go23 : goQ Try.prog 23 = true := by kernel_rfl
theorem go24 : goQ Try.prog 24 = true := by kernel_rfl
theorem go25 : goQ Try.prog 25 = true := by kernel_rfl
theorem go26 : goQ Try.prog 26 = true := by kernel_rfl
theorem go27 : goQ Try.prog 27 = true := by kernel_rfl
theorem go28 : goQ Try.prog 28 = true := by kernel_rfl
theorem mixed : (Try.prog).follows .mixedOrders = true := by kernel_rfl
end Go.Proofs.Ytbjjjapdioegpaa
