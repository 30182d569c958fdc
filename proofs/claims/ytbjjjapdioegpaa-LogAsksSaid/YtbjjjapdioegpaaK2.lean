/- walks -/
import Derived.Test.YtbjjjapdioegpaaK1
import Derived.Test.YtbjjjapdioegpaaE9d
set_option linter.unusedVariables false
set_option linter.unusedSimpArgs false
set_option maxRecDepth 100000
set_option maxHeartbeats 4000000
namespace Go.Proofs.Ytbjjjapdioegpaa
open Go Go.X
/-- quorumite/quorumiteref17.PutCell -/
theorem PutCell_yes (p pl kd : Int) (d : List UInt8) (M : Hp) (hm : mayC p pl kd d.length = true) : FnC Try.prog 11 #[.agg #[.int .u32 p, .int .i64 pl, .int .i64 kd, .string (ofL d)]] M (fun v M' => v = .tuple #[.string (ofL (cellB p pl kd d)), .int .i64 0] ∧ M = M') := by
  obtain ⟨hp1, hp2, hl1, hl2, hk1, hk2, hd⟩ := mayC_iff.1 hm
  refine FnC.intro Try.func11 rfl 52 rfl (by simp) (fun z => ?_)
  refine TC.env (E' := [(0, _)]) (Sub.cons rfl (Sub.nil _)) ?_
  refine TC.seq ?_
  refine TC.region ?_
  refine TL.does (some 1) rfl rfl rfl (Does.box rfl rfl) ?_
  rintro _ _ ⟨b1, rfl, rfl⟩
  refine TL.val rfl rfl (Nat.le_of_ble_eq_true rfl) (Val.assign rfl) ?_
  refine TL.val rfl rfl (Nat.le_of_ble_eq_true rfl) (Val.assign rfl) ?_
  refine TL.nil ?_
  refine AtX.then ?_
  refine TC.env (E' := [(1, _), (2, _), (3, _)]) (Sub.cons rfl (Sub.cons rfl (Sub.cons rfl (Sub.nil _)))) ?_
  refine TC.seq ?_
  refine TC.seq ?_
  refine TC.region ?_
  first
    | refine TL.val rfl rfl (Nat.le_of_ble_eq_true rfl) (Val.loadAgg 0 rfl ag28 sz28 rfl rfl rfl) ?_
    | refine TL.val rfl rfl (Nat.le_of_ble_eq_true rfl) (Val.loadAgg 1 rfl ag28 sz28 rfl rfl rfl) ?_
    | refine TL.val rfl rfl (Nat.le_of_ble_eq_true rfl) (Val.loadAgg 2 rfl ag28 sz28 rfl rfl rfl) ?_
    | refine TL.val rfl rfl (Nat.le_of_ble_eq_true rfl) (Val.loadAgg 3 rfl ag28 sz28 rfl rfl rfl) ?_
    | refine TL.val rfl rfl (Nat.le_of_ble_eq_true rfl) (Val.loadAgg 4 rfl ag28 sz28 rfl rfl rfl) ?_
    | refine TL.val rfl rfl (Nat.le_of_ble_eq_true rfl) (Val.loadAgg 5 rfl ag28 sz28 rfl rfl rfl) ?_
  refine TL.does (some 6) rfl rfl rfl (Does.callF go15 rfl (MayCell_fn _ _ _ _ _)) ?_
  rintro _ _ ⟨rfl, rfl⟩
  refine TL.val rfl rfl (Nat.le_of_ble_eq_true rfl) (Val.not rfl) ?_
  refine TL.nil ?_
  refine AtX.then ?_
  refine TC.env (E' := [(1, _), (2, _), (3, _), (7, _)]) (Sub.cons rfl (Sub.cons rfl (Sub.cons rfl (Sub.cons rfl (Sub.nil _))))) ?_
  first | refine TC.condP rfl (fun c1 => ?_) (fun c1 => ?_) | refine TC.condN rfl (fun c1 => ?_) (fun c1 => ?_) | refine TC.condB rfl (fun c1 => ?_) (fun c1 => ?_) | refine TC.cond rfl (fun c1 => ?_) (fun c1 => ?_)
  · skip
    rw [hm] at c1; cases c1
  · skip
    refine TC.env (E' := [(1, _), (2, _), (3, _)]) (Sub.cons rfl (Sub.cons rfl (Sub.cons rfl (Sub.nil _)))) ?_
    refine TC.skip ?_
    refine AtX.then ?_
    refine TC.env (E' := [(1, _), (2, _), (3, _)]) (Sub.cons rfl (Sub.cons rfl (Sub.cons rfl (Sub.nil _)))) ?_
    refine TC.join (ι := Unit) (fun _ => [(1, .pointer (some ⟨b1, 0, none⟩)), (4, .string (ofL (((put8 p).take 4).drop 0 ++ ((put8 pl).take 2).drop 0 ++ [Go.X.b8 kd, Go.X.b8 d.length] ++ d ++ List.replicate (48 - d.length) 0)))]) (fun _ => ((b1, .cells #[.int .u32 p, .int .i64 pl, .int .i64 kd, .string (ofL d)] 28 (0, 0)) :: M)) (fun _ => True) ?_ ?_
    · skip
      refine TC.drawL ((b1, .cells #[.int .u32 p, .int .i64 pl, .int .i64 kd, .string (ofL d)] 28 (0, 0)) :: M) mixed 32 ?_
      refine TA.tk 0 1 rfl rfl rfl (Val.fieldAddr rfl fl28_0 sz22 rfl) ?_
      first
        | refine TA.tk 1 3 rfl rfl rfl (Val.load 0 rfl ag22 rfl rfl) ?_
        | refine TA.tk 1 3 rfl rfl rfl (Val.load 1 rfl ag22 rfl rfl) ?_
        | refine TA.tk 1 3 rfl rfl rfl (Val.load 2 rfl ag22 rfl rfl) ?_
        | refine TA.tk 1 3 rfl rfl rfl (Val.load 3 rfl ag22 rfl rfl) ?_
        | refine TA.tk 1 3 rfl rfl rfl (Val.load 4 rfl ag22 rfl rfl) ?_
        | refine TA.tk 1 3 rfl rfl rfl (Val.load 5 rfl ag22 rfl rfl) ?_
      first
        | refine TA.tk 2 7 rfl rfl rfl (Val.convI rfl iu22 in55 (w_u64 (by omega) (by omega))) ?_
        | refine TA.tk 2 7 rfl rfl rfl (Val.convI rfl iu22 in55 rfl) ?_
      refine TA.tk 5 39 rfl rfl rfl (Val.fieldAddr rfl fl28_1 sz3 rfl) ?_
      first
        | refine TA.tk 6 103 rfl rfl rfl (Val.load 0 rfl ag3 rfl rfl) ?_
        | refine TA.tk 6 103 rfl rfl rfl (Val.load 1 rfl ag3 rfl rfl) ?_
        | refine TA.tk 6 103 rfl rfl rfl (Val.load 2 rfl ag3 rfl rfl) ?_
        | refine TA.tk 6 103 rfl rfl rfl (Val.load 3 rfl ag3 rfl rfl) ?_
        | refine TA.tk 6 103 rfl rfl rfl (Val.load 4 rfl ag3 rfl rfl) ?_
        | refine TA.tk 6 103 rfl rfl rfl (Val.load 5 rfl ag3 rfl rfl) ?_
      first
        | refine TA.tk 7 231 rfl rfl rfl (Val.convI rfl iu3 in55 (w_u64 (by omega) (by omega))) ?_
        | refine TA.tk 7 231 rfl rfl rfl (Val.convI rfl iu3 in55 rfl) ?_
      refine TA.tk 11 2279 rfl rfl rfl (Val.fieldAddr rfl fl28_2 sz3 rfl) ?_
      first
        | refine TA.tk 12 6375 rfl rfl rfl (Val.load 0 rfl ag3 rfl rfl) ?_
        | refine TA.tk 12 6375 rfl rfl rfl (Val.load 1 rfl ag3 rfl rfl) ?_
        | refine TA.tk 12 6375 rfl rfl rfl (Val.load 2 rfl ag3 rfl rfl) ?_
        | refine TA.tk 12 6375 rfl rfl rfl (Val.load 3 rfl ag3 rfl rfl) ?_
        | refine TA.tk 12 6375 rfl rfl rfl (Val.load 4 rfl ag3 rfl rfl) ?_
        | refine TA.tk 12 6375 rfl rfl rfl (Val.load 5 rfl ag3 rfl rfl) ?_
      refine TA.tk 13 14567 rfl rfl rfl (Val.convI rfl iu3 in5 w_b8) ?_
      refine TA.tk 14 30951 rfl rfl rfl (Val.fieldAddr rfl fl28_3 sz9 rfl) ?_
      first
        | refine TA.tk 15 63719 rfl rfl rfl (Val.load 0 rfl ag9 rfl rfl) ?_
        | refine TA.tk 15 63719 rfl rfl rfl (Val.load 1 rfl ag9 rfl rfl) ?_
        | refine TA.tk 15 63719 rfl rfl rfl (Val.load 2 rfl ag9 rfl rfl) ?_
        | refine TA.tk 15 63719 rfl rfl rfl (Val.load 3 rfl ag9 rfl rfl) ?_
        | refine TA.tk 15 63719 rfl rfl rfl (Val.load 4 rfl ag9 rfl rfl) ?_
        | refine TA.tk 15 63719 rfl rfl rfl (Val.load 5 rfl ag9 rfl rfl) ?_
      first
        | refine TA.tk 16 129255 rfl rfl rfl (Val.lenL rfl rfl un9) ?_
        | refine TA.tk 16 129255 rfl rfl rfl (Val.lenStr rfl rfl un9) ?_
      refine TA.tk 17 260327 rfl rfl rfl (Val.convI rfl iu3 in5 w_b8) ?_
      refine TA.tk 21 2357479 rfl rfl rfl (Val.fieldAddr rfl fl28_3 sz9 rfl) ?_
      first
        | refine TA.tk 22 6551783 rfl rfl rfl (Val.load 0 rfl ag9 rfl rfl) ?_
        | refine TA.tk 22 6551783 rfl rfl rfl (Val.load 1 rfl ag9 rfl rfl) ?_
        | refine TA.tk 22 6551783 rfl rfl rfl (Val.load 2 rfl ag9 rfl rfl) ?_
        | refine TA.tk 22 6551783 rfl rfl rfl (Val.load 3 rfl ag9 rfl rfl) ?_
        | refine TA.tk 22 6551783 rfl rfl rfl (Val.load 4 rfl ag9 rfl rfl) ?_
        | refine TA.tk 22 6551783 rfl rfl rfl (Val.load 5 rfl ag9 rfl rfl) ?_
      refine TA.tk 24 23328999 rfl rfl rfl (Val.fieldAddr rfl fl28_3 sz9 rfl) ?_
      first
        | refine TA.tk 25 56883431 rfl rfl rfl (Val.load 0 rfl ag9 rfl rfl) ?_
        | refine TA.tk 25 56883431 rfl rfl rfl (Val.load 1 rfl ag9 rfl rfl) ?_
        | refine TA.tk 25 56883431 rfl rfl rfl (Val.load 2 rfl ag9 rfl rfl) ?_
        | refine TA.tk 25 56883431 rfl rfl rfl (Val.load 3 rfl ag9 rfl rfl) ?_
        | refine TA.tk 25 56883431 rfl rfl rfl (Val.load 4 rfl ag9 rfl rfl) ?_
        | refine TA.tk 25 56883431 rfl rfl rfl (Val.load 5 rfl ag9 rfl rfl) ?_
      first
        | refine TA.tk 26 123992295 rfl rfl rfl (Val.lenL rfl rfl un9) ?_
        | refine TA.tk 26 123992295 rfl rfl rfl (Val.lenStr rfl rfl un9) ?_
      first
        | refine TA.tk 27 258210023 rfl rfl rfl (Val.sub rfl rfl (w_i64 (by omega) (by omega))) ?_
        | refine TA.tk 27 258210023 rfl rfl rfl (Val.sub rfl rfl rfl) ?_
      refine TA.three 3 18 28 (by kernel_rfl) ?_ ?_ ?_
      · skip
        refine TO.dz 258210031 (some 11) rfl rfl rfl rfl (Does.callF go23 rfl (refPut_fn _ _)) ?_
        rintro _ _ ⟨rfl, rfl⟩
        refine roK ?_
        refine TA.tk 4 258210047 rfl rfl rfl (Val.sliceL (i := 0) (j := 4) rfl un9 rfl rfl rfl rfl (by omega) (by simp)) ?_
        refine TA.three 8 18 28 (by kernel_rfl) ?_ ?_ ?_
        · skip
          refine TO.dz 258210303 (some 16) rfl rfl rfl rfl (Does.callF go23 rfl (refPut_fn _ _)) ?_
          rintro _ _ ⟨rfl, rfl⟩
          refine roK ?_
          refine TA.tk 9 258210815 rfl rfl rfl (Val.sliceL (i := 0) (j := 2) rfl un9 rfl rfl rfl rfl (by omega) (by simp)) ?_
          first
            | refine TA.tk 10 258211839 rfl rfl rfl (Val.addL rfl rfl (by first | omega | (simp <;> omega))) ?_
            | refine TA.tk 10 258211839 rfl rfl rfl (Val.addS rfl rfl (by first | decide | omega)) ?_
          refine TA.two 18 28 (by kernel_rfl) ?_ ?_
          · skip
            refine TO.dz 258473983 (some 26) rfl rfl rfl rfl (Does.buildSlice sl23 sz5 ze5 (by decide) (by decide) rfl rfl rfl) ?_
            rintro _ _ ⟨b5, rfl, rfl⟩
            refine roK ?_
            refine TA.two 19 28 (by kernel_rfl) ?_ ?_
            · skip
              first
                | refine TO.dz 258998271 (some 27) rfl rfl rfl rfl (Val.does (Val.b2s (l := [Go.X.b8 kd, Go.X.b8 d.length]) rfl us23 ui5 un9 rfl (.some (Rd.get (i := 0) rfl rfl)))) ?_
                | refine TO.dz 258998271 (some 27) rfl rfl rfl rfl (Val.does (Val.b2s (l := [Go.X.b8 kd, Go.X.b8 d.length]) rfl us23 ui5 un9 rfl (.some (Rd.get (i := 1) rfl rfl)))) ?_
                | refine TO.dz 258998271 (some 27) rfl rfl rfl rfl (Val.does (Val.b2s (l := [Go.X.b8 kd, Go.X.b8 d.length]) rfl us23 ui5 un9 rfl (.some (Rd.get (i := 2) rfl rfl)))) ?_
                | refine TO.dz 258998271 (some 27) rfl rfl rfl rfl (Val.does (Val.b2s (l := [Go.X.b8 kd, Go.X.b8 d.length]) rfl us23 ui5 un9 rfl (.some (Rd.get (i := 3) rfl rfl)))) ?_
              rintro _ _ ⟨rfl, rfl⟩
              refine roK ?_
              first
                | refine TA.tk 20 260046847 rfl rfl rfl (Val.addL rfl rfl (by first | omega | (simp <;> omega))) ?_
                | refine TA.tk 20 260046847 rfl rfl rfl (Val.addS rfl rfl (by first | decide | omega)) ?_
              first
                | refine TA.tk 23 268435455 rfl rfl rfl (Val.addL rfl rfl (by first | omega | (simp <;> omega))) ?_
                | refine TA.tk 23 268435455 rfl rfl rfl (Val.addS rfl rfl (by first | decide | omega)) ?_
              refine TA.one 28 (by kernel_rfl) ?_
              refine TO.dz 536870911 (some 36) rfl rfl rfl rfl (Does.makeSlice (n := 48 - d.length) (c := 48 - d.length) rfl rfl sl23 sz5 by5 ze5 rfl (by omega) (by omega) (by omega) (by omega) (by omega)) ?_
              rintro _ _ ⟨bz, rfl, rfl⟩
              refine roK ?_
              refine TA.one 29 (by kernel_rfl) ?_
              first
                | refine TO.dz 1073741823 (some 37) rfl rfl rfl rfl (Val.does (Val.b2s (l := List.replicate (48 - d.length) 0) rfl us23 ui5 un9 (by simp) (rdS_z (i := 0) rfl))) ?_
                | refine TO.dz 1073741823 (some 37) rfl rfl rfl rfl (Val.does (Val.b2s (l := List.replicate (48 - d.length) 0) rfl us23 ui5 un9 (by simp) (rdS_z (i := 1) rfl))) ?_
                | refine TO.dz 1073741823 (some 37) rfl rfl rfl rfl (Val.does (Val.b2s (l := List.replicate (48 - d.length) 0) rfl us23 ui5 un9 (by simp) (rdS_z (i := 2) rfl))) ?_
                | refine TO.dz 1073741823 (some 37) rfl rfl rfl rfl (Val.does (Val.b2s (l := List.replicate (48 - d.length) 0) rfl us23 ui5 un9 (by simp) (rdS_z (i := 3) rfl))) ?_
              rintro _ _ ⟨rfl, rfl⟩
              refine roK ?_
              first
                | refine TA.tk 30 2147483647 rfl rfl rfl (Val.addL rfl rfl (by first | omega | (simp <;> omega))) ?_
                | refine TA.tk 30 2147483647 rfl rfl rfl (Val.addS rfl rfl (by first | decide | omega)) ?_
              refine TA.tk 31 4294967295 rfl rfl rfl (Val.assign rfl) ?_
              refine TA.done (by kernel_rfl) ?_
              refine AtX.join () ?_ (Sub.cons rfl (Sub.cons rfl (Sub.nil _))) (by repeat (first | exact ro_refl | exact ro_pre | refine ro_tail ?_ | refine ro_app ?_))
              trivial
            · skip
              refine TO.dz 526909439 (some 36) rfl rfl rfl rfl (Does.makeSlice (n := 48 - d.length) (c := 48 - d.length) rfl rfl sl23 sz5 by5 ze5 rfl (by omega) (by omega) (by omega) (by omega) (by omega)) ?_
              rintro _ _ ⟨bz, rfl, rfl⟩
              refine roK ?_
              refine TA.two 19 29 (by kernel_rfl) ?_ ?_
              · skip
                first
                  | refine TO.dz 527433727 (some 27) rfl rfl rfl rfl (Val.does (Val.b2s (l := [Go.X.b8 kd, Go.X.b8 d.length]) rfl us23 ui5 un9 rfl (.some (Rd.get (i := 0) rfl rfl)))) ?_
                  | refine TO.dz 527433727 (some 27) rfl rfl rfl rfl (Val.does (Val.b2s (l := [Go.X.b8 kd, Go.X.b8 d.length]) rfl us23 ui5 un9 rfl (.some (Rd.get (i := 1) rfl rfl)))) ?_
                  | refine TO.dz 527433727 (some 27) rfl rfl rfl rfl (Val.does (Val.b2s (l := [Go.X.b8 kd, Go.X.b8 d.length]) rfl us23 ui5 un9 rfl (.some (Rd.get (i := 2) rfl rfl)))) ?_
                  | refine TO.dz 527433727 (some 27) rfl rfl rfl rfl (Val.does (Val.b2s (l := [Go.X.b8 kd, Go.X.b8 d.length]) rfl us23 ui5 un9 rfl (.some (Rd.get (i := 3) rfl rfl)))) ?_
                rintro _ _ ⟨rfl, rfl⟩
                refine roK ?_
                first
                  | refine TA.tk 20 528482303 rfl rfl rfl (Val.addL rfl rfl (by first | omega | (simp <;> omega))) ?_
                  | refine TA.tk 20 528482303 rfl rfl rfl (Val.addS rfl rfl (by first | decide | omega)) ?_
                first
                  | refine TA.tk 23 536870911 rfl rfl rfl (Val.addL rfl rfl (by first | omega | (simp <;> omega))) ?_
                  | refine TA.tk 23 536870911 rfl rfl rfl (Val.addS rfl rfl (by first | decide | omega)) ?_
                refine TA.one 29 (by kernel_rfl) ?_
                first
                  | refine TO.dz 1073741823 (some 37) rfl rfl rfl rfl (Val.does (Val.b2s (l := List.replicate (48 - d.length) 0) rfl us23 ui5 un9 (by simp) (rdS_z (i := 0) rfl))) ?_
                  | refine TO.dz 1073741823 (some 37) rfl rfl rfl rfl (Val.does (Val.b2s (l := List.replicate (48 - d.length) 0) rfl us23 ui5 un9 (by simp) (rdS_z (i := 1) rfl))) ?_
                  | refine TO.dz 1073741823 (some 37) rfl rfl rfl rfl (Val.does (Val.b2s (l := List.replicate (48 - d.length) 0) rfl us23 ui5 un9 (by simp) (rdS_z (i := 2) rfl))) ?_
                  | refine TO.dz 1073741823 (some 37) rfl rfl rfl rfl (Val.does (Val.b2s (l := List.replicate (48 - d.length) 0) rfl us23 ui5 un9 (by simp) (rdS_z (i := 3) rfl))) ?_
                rintro _ _ ⟨rfl, rfl⟩
                refine roK ?_
                first
                  | refine TA.tk 30 2147483647 rfl rfl rfl (Val.addL rfl rfl (by first | omega | (simp <;> omega))) ?_
                  | refine TA.tk 30 2147483647 rfl rfl rfl (Val.addS rfl rfl (by first | decide | omega)) ?_
                refine TA.tk 31 4294967295 rfl rfl rfl (Val.assign rfl) ?_
                refine TA.done (by kernel_rfl) ?_
                refine AtX.join () ?_ (Sub.cons rfl (Sub.cons rfl (Sub.nil _))) (by repeat (first | exact ro_refl | exact ro_pre | refine ro_tail ?_ | refine ro_app ?_))
                trivial
              · skip
                first
                  | refine TO.dz 1063780351 (some 37) rfl rfl rfl rfl (Val.does (Val.b2s (l := List.replicate (48 - d.length) 0) rfl us23 ui5 un9 (by simp) (rdS_z (i := 0) rfl))) ?_
                  | refine TO.dz 1063780351 (some 37) rfl rfl rfl rfl (Val.does (Val.b2s (l := List.replicate (48 - d.length) 0) rfl us23 ui5 un9 (by simp) (rdS_z (i := 1) rfl))) ?_
                  | refine TO.dz 1063780351 (some 37) rfl rfl rfl rfl (Val.does (Val.b2s (l := List.replicate (48 - d.length) 0) rfl us23 ui5 un9 (by simp) (rdS_z (i := 2) rfl))) ?_
                  | refine TO.dz 1063780351 (some 37) rfl rfl rfl rfl (Val.does (Val.b2s (l := List.replicate (48 - d.length) 0) rfl us23 ui5 un9 (by simp) (rdS_z (i := 3) rfl))) ?_
                rintro _ _ ⟨rfl, rfl⟩
                refine roK ?_
                refine TA.one 19 (by kernel_rfl) ?_
                first
                  | refine TO.dz 1064304639 (some 27) rfl rfl rfl rfl (Val.does (Val.b2s (l := [Go.X.b8 kd, Go.X.b8 d.length]) rfl us23 ui5 un9 rfl (.some (Rd.get (i := 0) rfl rfl)))) ?_
                  | refine TO.dz 1064304639 (some 27) rfl rfl rfl rfl (Val.does (Val.b2s (l := [Go.X.b8 kd, Go.X.b8 d.length]) rfl us23 ui5 un9 rfl (.some (Rd.get (i := 1) rfl rfl)))) ?_
                  | refine TO.dz 1064304639 (some 27) rfl rfl rfl rfl (Val.does (Val.b2s (l := [Go.X.b8 kd, Go.X.b8 d.length]) rfl us23 ui5 un9 rfl (.some (Rd.get (i := 2) rfl rfl)))) ?_
                  | refine TO.dz 1064304639 (some 27) rfl rfl rfl rfl (Val.does (Val.b2s (l := [Go.X.b8 kd, Go.X.b8 d.length]) rfl us23 ui5 un9 rfl (.some (Rd.get (i := 3) rfl rfl)))) ?_
                rintro _ _ ⟨rfl, rfl⟩
                refine roK ?_
                first
                  | refine TA.tk 20 1065353215 rfl rfl rfl (Val.addL rfl rfl (by first | omega | (simp <;> omega))) ?_
                  | refine TA.tk 20 1065353215 rfl rfl rfl (Val.addS rfl rfl (by first | decide | omega)) ?_
                first
                  | refine TA.tk 23 1073741823 rfl rfl rfl (Val.addL rfl rfl (by first | omega | (simp <;> omega))) ?_
                  | refine TA.tk 23 1073741823 rfl rfl rfl (Val.addS rfl rfl (by first | decide | omega)) ?_
                first
                  | refine TA.tk 30 2147483647 rfl rfl rfl (Val.addL rfl rfl (by first | omega | (simp <;> omega))) ?_
                  | refine TA.tk 30 2147483647 rfl rfl rfl (Val.addS rfl rfl (by first | decide | omega)) ?_
                refine TA.tk 31 4294967295 rfl rfl rfl (Val.assign rfl) ?_
                refine TA.done (by kernel_rfl) ?_
                refine AtX.join () ?_ (Sub.cons rfl (Sub.cons rfl (Sub.nil _))) (by repeat (first | exact ro_refl | exact ro_pre | refine ro_tail ?_ | refine ro_app ?_))
                trivial
          · skip
            refine TO.dz 526647295 (some 36) rfl rfl rfl rfl (Does.makeSlice (n := 48 - d.length) (c := 48 - d.length) rfl rfl sl23 sz5 by5 ze5 rfl (by omega) (by omega) (by omega) (by omega) (by omega)) ?_
            rintro _ _ ⟨bz, rfl, rfl⟩
            refine roK ?_
            refine TA.two 18 29 (by kernel_rfl) ?_ ?_
            · skip
              refine TO.dz 526909439 (some 26) rfl rfl rfl rfl (Does.buildSlice sl23 sz5 ze5 (by decide) (by decide) rfl rfl rfl) ?_
              rintro _ _ ⟨b6, rfl, rfl⟩
              refine roK ?_
              refine TA.two 19 29 (by kernel_rfl) ?_ ?_
              · skip
                first
                  | refine TO.dz 527433727 (some 27) rfl rfl rfl rfl (Val.does (Val.b2s (l := [Go.X.b8 kd, Go.X.b8 d.length]) rfl us23 ui5 un9 rfl (.some (Rd.get (i := 0) rfl rfl)))) ?_
                  | refine TO.dz 527433727 (some 27) rfl rfl rfl rfl (Val.does (Val.b2s (l := [Go.X.b8 kd, Go.X.b8 d.length]) rfl us23 ui5 un9 rfl (.some (Rd.get (i := 1) rfl rfl)))) ?_
                  | refine TO.dz 527433727 (some 27) rfl rfl rfl rfl (Val.does (Val.b2s (l := [Go.X.b8 kd, Go.X.b8 d.length]) rfl us23 ui5 un9 rfl (.some (Rd.get (i := 2) rfl rfl)))) ?_
                  | refine TO.dz 527433727 (some 27) rfl rfl rfl rfl (Val.does (Val.b2s (l := [Go.X.b8 kd, Go.X.b8 d.length]) rfl us23 ui5 un9 rfl (.some (Rd.get (i := 3) rfl rfl)))) ?_
                rintro _ _ ⟨rfl, rfl⟩
                refine roK ?_
                first
                  | refine TA.tk 20 528482303 rfl rfl rfl (Val.addL rfl rfl (by first | omega | (simp <;> omega))) ?_
                  | refine TA.tk 20 528482303 rfl rfl rfl (Val.addS rfl rfl (by first | decide | omega)) ?_
                first
                  | refine TA.tk 23 536870911 rfl rfl rfl (Val.addL rfl rfl (by first | omega | (simp <;> omega))) ?_
                  | refine TA.tk 23 536870911 rfl rfl rfl (Val.addS rfl rfl (by first | decide | omega)) ?_
                refine TA.one 29 (by kernel_rfl) ?_
                first
                  | refine TO.dz 1073741823 (some 37) rfl rfl rfl rfl (Val.does (Val.b2s (l := List.replicate (48 - d.length) 0) rfl us23 ui5 un9 (by simp) (rdS_z (i := 0) rfl))) ?_
                  | refine TO.dz 1073741823 (some 37) rfl rfl rfl rfl (Val.does (Val.b2s (l := List.replicate (48 - d.length) 0) rfl us23 ui5 un9 (by simp) (rdS_z (i := 1) rfl))) ?_
                  | refine TO.dz 1073741823 (some 37) rfl rfl rfl rfl (Val.does (Val.b2s (l := List.replicate (48 - d.length) 0) rfl us23 ui5 un9 (by simp) (rdS_z (i := 2) rfl))) ?_
                  | refine TO.dz 1073741823 (some 37) rfl rfl rfl rfl (Val.does (Val.b2s (l := List.replicate (48 - d.length) 0) rfl us23 ui5 un9 (by simp) (rdS_z (i := 3) rfl))) ?_
                rintro _ _ ⟨rfl, rfl⟩
                refine roK ?_
                first
                  | refine TA.tk 30 2147483647 rfl rfl rfl (Val.addL rfl rfl (by first | omega | (simp <;> omega))) ?_
                  | refine TA.tk 30 2147483647 rfl rfl rfl (Val.addS rfl rfl (by first | decide | omega)) ?_
                refine TA.tk 31 4294967295 rfl rfl rfl (Val.assign rfl) ?_
                refine TA.done (by kernel_rfl) ?_
                refine AtX.join () ?_ (Sub.cons rfl (Sub.cons rfl (Sub.nil _))) (by repeat (first | exact ro_refl | exact ro_pre | refine ro_tail ?_ | refine ro_app ?_))
                trivial
              · skip
                first
                  | refine TO.dz 1063780351 (some 37) rfl rfl rfl rfl (Val.does (Val.b2s (l := List.replicate (48 - d.length) 0) rfl us23 ui5 un9 (by simp) (rdS_z (i := 0) rfl))) ?_
                  | refine TO.dz 1063780351 (some 37) rfl rfl rfl rfl (Val.does (Val.b2s (l := List.replicate (48 - d.length) 0) rfl us23 ui5 un9 (by simp) (rdS_z (i := 1) rfl))) ?_
                  | refine TO.dz 1063780351 (some 37) rfl rfl rfl rfl (Val.does (Val.b2s (l := List.replicate (48 - d.length) 0) rfl us23 ui5 un9 (by simp) (rdS_z (i := 2) rfl))) ?_
                  | refine TO.dz 1063780351 (some 37) rfl rfl rfl rfl (Val.does (Val.b2s (l := List.replicate (48 - d.length) 0) rfl us23 ui5 un9 (by simp) (rdS_z (i := 3) rfl))) ?_
                rintro _ _ ⟨rfl, rfl⟩
                refine roK ?_
                refine TA.one 19 (by kernel_rfl) ?_
                first
                  | refine TO.dz 1064304639 (some 27) rfl rfl rfl rfl (Val.does (Val.b2s (l := [Go.X.b8 kd, Go.X.b8 d.length]) rfl us23 ui5 un9 rfl (.some (Rd.get (i := 0) rfl rfl)))) ?_
                  | refine TO.dz 1064304639 (some 27) rfl rfl rfl rfl (Val.does (Val.b2s (l := [Go.X.b8 kd, Go.X.b8 d.length]) rfl us23 ui5 un9 rfl (.some (Rd.get (i := 1) rfl rfl)))) ?_
                  | refine TO.dz 1064304639 (some 27) rfl rfl rfl rfl (Val.does (Val.b2s (l := [Go.X.b8 kd, Go.X.b8 d.length]) rfl us23 ui5 un9 rfl (.some (Rd.get (i := 2) rfl rfl)))) ?_
                  | refine TO.dz 1064304639 (some 27) rfl rfl rfl rfl (Val.does (Val.b2s (l := [Go.X.b8 kd, Go.X.b8 d.length]) rfl us23 ui5 un9 rfl (.some (Rd.get (i := 3) rfl rfl)))) ?_
                rintro _ _ ⟨rfl, rfl⟩
                refine roK ?_
                first
                  | refine TA.tk 20 1065353215 rfl rfl rfl (Val.addL rfl rfl (by first | omega | (simp <;> omega))) ?_
                  | refine TA.tk 20 1065353215 rfl rfl rfl (Val.addS rfl rfl (by first | decide | omega)) ?_
                first
                  | refine TA.tk 23 1073741823 rfl rfl rfl (Val.addL rfl rfl (by first | omega | (simp <;> omega))) ?_
                  | refine TA.tk 23 1073741823 rfl rfl rfl (Val.addS rfl rfl (by first | decide | omega)) ?_
                first
                  | refine TA.tk 30 2147483647 rfl rfl rfl (Val.addL rfl rfl (by first | omega | (simp <;> omega))) ?_
                  | refine TA.tk 30 2147483647 rfl rfl rfl (Val.addS rfl rfl (by first | decide | omega)) ?_
                refine TA.tk 31 4294967295 rfl rfl rfl (Val.assign rfl) ?_
                refine TA.done (by kernel_rfl) ?_
                refine AtX.join () ?_ (Sub.cons rfl (Sub.cons rfl (Sub.nil _))) (by repeat (first | exact ro_refl | exact ro_pre | refine ro_tail ?_ | refine ro_app ?_))
                trivial
            · skip
              first
                | refine TO.dz 1063518207 (some 37) rfl rfl rfl rfl (Val.does (Val.b2s (l := List.replicate (48 - d.length) 0) rfl us23 ui5 un9 (by simp) (rdS_z (i := 0) rfl))) ?_
                | refine TO.dz 1063518207 (some 37) rfl rfl rfl rfl (Val.does (Val.b2s (l := List.replicate (48 - d.length) 0) rfl us23 ui5 un9 (by simp) (rdS_z (i := 1) rfl))) ?_
                | refine TO.dz 1063518207 (some 37) rfl rfl rfl rfl (Val.does (Val.b2s (l := List.replicate (48 - d.length) 0) rfl us23 ui5 un9 (by simp) (rdS_z (i := 2) rfl))) ?_
                | refine TO.dz 1063518207 (some 37) rfl rfl rfl rfl (Val.does (Val.b2s (l := List.replicate (48 - d.length) 0) rfl us23 ui5 un9 (by simp) (rdS_z (i := 3) rfl))) ?_
              rintro _ _ ⟨rfl, rfl⟩
              refine roK ?_
              refine TA.one 18 (by kernel_rfl) ?_
              refine TO.dz 1063780351 (some 26) rfl rfl rfl rfl (Does.buildSlice sl23 sz5 ze5 (by decide) (by decide) rfl rfl rfl) ?_
              rintro _ _ ⟨b7, rfl, rfl⟩
              refine roK ?_
              refine TA.one 19 (by kernel_rfl) ?_
              first
                | refine TO.dz 1064304639 (some 27) rfl rfl rfl rfl (Val.does (Val.b2s (l := [Go.X.b8 kd, Go.X.b8 d.length]) rfl us23 ui5 un9 rfl (.some (Rd.get (i := 0) rfl rfl)))) ?_
                | refine TO.dz 1064304639 (some 27) rfl rfl rfl rfl (Val.does (Val.b2s (l := [Go.X.b8 kd, Go.X.b8 d.length]) rfl us23 ui5 un9 rfl (.some (Rd.get (i := 1) rfl rfl)))) ?_
                | refine TO.dz 1064304639 (some 27) rfl rfl rfl rfl (Val.does (Val.b2s (l := [Go.X.b8 kd, Go.X.b8 d.length]) rfl us23 ui5 un9 rfl (.some (Rd.get (i := 2) rfl rfl)))) ?_
                | refine TO.dz 1064304639 (some 27) rfl rfl rfl rfl (Val.does (Val.b2s (l := [Go.X.b8 kd, Go.X.b8 d.length]) rfl us23 ui5 un9 rfl (.some (Rd.get (i := 3) rfl rfl)))) ?_
              rintro _ _ ⟨rfl, rfl⟩
              refine roK ?_
              first
                | refine TA.tk 20 1065353215 rfl rfl rfl (Val.addL rfl rfl (by first | omega | (simp <;> omega))) ?_
                | refine TA.tk 20 1065353215 rfl rfl rfl (Val.addS rfl rfl (by first | decide | omega)) ?_
              first
                | refine TA.tk 23 1073741823 rfl rfl rfl (Val.addL rfl rfl (by first | omega | (simp <;> omega))) ?_
                | refine TA.tk 23 1073741823 rfl rfl rfl (Val.addS rfl rfl (by first | decide | omega)) ?_
              first
                | refine TA.tk 30 2147483647 rfl rfl rfl (Val.addL rfl rfl (by first | omega | (simp <;> omega))) ?_
                | refine TA.tk 30 2147483647 rfl rfl rfl (Val.addS rfl rfl (by first | decide | omega)) ?_
              refine TA.tk 31 4294967295 rfl rfl rfl (Val.assign rfl) ?_
              refine TA.done (by kernel_rfl) ?_
              refine AtX.join () ?_ (Sub.cons rfl (Sub.cons rfl (Sub.nil _))) (by repeat (first | exact ro_refl | exact ro_pre | refine ro_tail ?_ | refine ro_app ?_))
              trivial
        · skip
          refine TO.dz 258472191 (some 26) rfl rfl rfl rfl (Does.buildSlice sl23 sz5 ze5 (by decide) (by decide) rfl rfl rfl) ?_
          rintro _ _ ⟨b8, rfl, rfl⟩
          refine roK ?_
          refine TA.three 8 19 28 (by kernel_rfl) ?_ ?_ ?_
          · skip
            refine TO.dz 258472447 (some 16) rfl rfl rfl rfl (Does.callF go23 rfl (refPut_fn _ _)) ?_
            rintro _ _ ⟨rfl, rfl⟩
            refine roK ?_
            refine TA.tk 9 258472959 rfl rfl rfl (Val.sliceL (i := 0) (j := 2) rfl un9 rfl rfl rfl rfl (by omega) (by simp)) ?_
            first
              | refine TA.tk 10 258473983 rfl rfl rfl (Val.addL rfl rfl (by first | omega | (simp <;> omega))) ?_
              | refine TA.tk 10 258473983 rfl rfl rfl (Val.addS rfl rfl (by first | decide | omega)) ?_
            refine TA.two 19 28 (by kernel_rfl) ?_ ?_
            · skip
              first
                | refine TO.dz 258998271 (some 27) rfl rfl rfl rfl (Val.does (Val.b2s (l := [Go.X.b8 kd, Go.X.b8 d.length]) rfl us23 ui5 un9 rfl (.some (Rd.get (i := 0) rfl rfl)))) ?_
                | refine TO.dz 258998271 (some 27) rfl rfl rfl rfl (Val.does (Val.b2s (l := [Go.X.b8 kd, Go.X.b8 d.length]) rfl us23 ui5 un9 rfl (.some (Rd.get (i := 1) rfl rfl)))) ?_
                | refine TO.dz 258998271 (some 27) rfl rfl rfl rfl (Val.does (Val.b2s (l := [Go.X.b8 kd, Go.X.b8 d.length]) rfl us23 ui5 un9 rfl (.some (Rd.get (i := 2) rfl rfl)))) ?_
                | refine TO.dz 258998271 (some 27) rfl rfl rfl rfl (Val.does (Val.b2s (l := [Go.X.b8 kd, Go.X.b8 d.length]) rfl us23 ui5 un9 rfl (.some (Rd.get (i := 3) rfl rfl)))) ?_
              rintro _ _ ⟨rfl, rfl⟩
              refine roK ?_
              first
                | refine TA.tk 20 260046847 rfl rfl rfl (Val.addL rfl rfl (by first | omega | (simp <;> omega))) ?_
                | refine TA.tk 20 260046847 rfl rfl rfl (Val.addS rfl rfl (by first | decide | omega)) ?_
              first
                | refine TA.tk 23 268435455 rfl rfl rfl (Val.addL rfl rfl (by first | omega | (simp <;> omega))) ?_
                | refine TA.tk 23 268435455 rfl rfl rfl (Val.addS rfl rfl (by first | decide | omega)) ?_
              refine TA.one 28 (by kernel_rfl) ?_
              refine TO.dz 536870911 (some 36) rfl rfl rfl rfl (Does.makeSlice (n := 48 - d.length) (c := 48 - d.length) rfl rfl sl23 sz5 by5 ze5 rfl (by omega) (by omega) (by omega) (by omega) (by omega)) ?_
              rintro _ _ ⟨bz, rfl, rfl⟩
              refine roK ?_
              refine TA.one 29 (by kernel_rfl) ?_
              first
                | refine TO.dz 1073741823 (some 37) rfl rfl rfl rfl (Val.does (Val.b2s (l := List.replicate (48 - d.length) 0) rfl us23 ui5 un9 (by simp) (rdS_z (i := 0) rfl))) ?_
                | refine TO.dz 1073741823 (some 37) rfl rfl rfl rfl (Val.does (Val.b2s (l := List.replicate (48 - d.length) 0) rfl us23 ui5 un9 (by simp) (rdS_z (i := 1) rfl))) ?_
                | refine TO.dz 1073741823 (some 37) rfl rfl rfl rfl (Val.does (Val.b2s (l := List.replicate (48 - d.length) 0) rfl us23 ui5 un9 (by simp) (rdS_z (i := 2) rfl))) ?_
                | refine TO.dz 1073741823 (some 37) rfl rfl rfl rfl (Val.does (Val.b2s (l := List.replicate (48 - d.length) 0) rfl us23 ui5 un9 (by simp) (rdS_z (i := 3) rfl))) ?_
              rintro _ _ ⟨rfl, rfl⟩
              refine roK ?_
              first
                | refine TA.tk 30 2147483647 rfl rfl rfl (Val.addL rfl rfl (by first | omega | (simp <;> omega))) ?_
                | refine TA.tk 30 2147483647 rfl rfl rfl (Val.addS rfl rfl (by first | decide | omega)) ?_
              refine TA.tk 31 4294967295 rfl rfl rfl (Val.assign rfl) ?_
              refine TA.done (by kernel_rfl) ?_
              refine AtX.join () ?_ (Sub.cons rfl (Sub.cons rfl (Sub.nil _))) (by repeat (first | exact ro_refl | exact ro_pre | refine ro_tail ?_ | refine ro_app ?_))
              trivial
            · skip
              refine TO.dz 526909439 (some 36) rfl rfl rfl rfl (Does.makeSlice (n := 48 - d.length) (c := 48 - d.length) rfl rfl sl23 sz5 by5 ze5 rfl (by omega) (by omega) (by omega) (by omega) (by omega)) ?_
              rintro _ _ ⟨bz, rfl, rfl⟩
              refine roK ?_
              refine TA.two 19 29 (by kernel_rfl) ?_ ?_
              · skip
                first
                  | refine TO.dz 527433727 (some 27) rfl rfl rfl rfl (Val.does (Val.b2s (l := [Go.X.b8 kd, Go.X.b8 d.length]) rfl us23 ui5 un9 rfl (.some (Rd.get (i := 0) rfl rfl)))) ?_
                  | refine TO.dz 527433727 (some 27) rfl rfl rfl rfl (Val.does (Val.b2s (l := [Go.X.b8 kd, Go.X.b8 d.length]) rfl us23 ui5 un9 rfl (.some (Rd.get (i := 1) rfl rfl)))) ?_
                  | refine TO.dz 527433727 (some 27) rfl rfl rfl rfl (Val.does (Val.b2s (l := [Go.X.b8 kd, Go.X.b8 d.length]) rfl us23 ui5 un9 rfl (.some (Rd.get (i := 2) rfl rfl)))) ?_
                  | refine TO.dz 527433727 (some 27) rfl rfl rfl rfl (Val.does (Val.b2s (l := [Go.X.b8 kd, Go.X.b8 d.length]) rfl us23 ui5 un9 rfl (.some (Rd.get (i := 3) rfl rfl)))) ?_
                rintro _ _ ⟨rfl, rfl⟩
                refine roK ?_
                first
                  | refine TA.tk 20 528482303 rfl rfl rfl (Val.addL rfl rfl (by first | omega | (simp <;> omega))) ?_
                  | refine TA.tk 20 528482303 rfl rfl rfl (Val.addS rfl rfl (by first | decide | omega)) ?_
                first
                  | refine TA.tk 23 536870911 rfl rfl rfl (Val.addL rfl rfl (by first | omega | (simp <;> omega))) ?_
                  | refine TA.tk 23 536870911 rfl rfl rfl (Val.addS rfl rfl (by first | decide | omega)) ?_
                refine TA.one 29 (by kernel_rfl) ?_
                first
                  | refine TO.dz 1073741823 (some 37) rfl rfl rfl rfl (Val.does (Val.b2s (l := List.replicate (48 - d.length) 0) rfl us23 ui5 un9 (by simp) (rdS_z (i := 0) rfl))) ?_
                  | refine TO.dz 1073741823 (some 37) rfl rfl rfl rfl (Val.does (Val.b2s (l := List.replicate (48 - d.length) 0) rfl us23 ui5 un9 (by simp) (rdS_z (i := 1) rfl))) ?_
                  | refine TO.dz 1073741823 (some 37) rfl rfl rfl rfl (Val.does (Val.b2s (l := List.replicate (48 - d.length) 0) rfl us23 ui5 un9 (by simp) (rdS_z (i := 2) rfl))) ?_
                  | refine TO.dz 1073741823 (some 37) rfl rfl rfl rfl (Val.does (Val.b2s (l := List.replicate (48 - d.length) 0) rfl us23 ui5 un9 (by simp) (rdS_z (i := 3) rfl))) ?_
                rintro _ _ ⟨rfl, rfl⟩
                refine roK ?_
                first
                  | refine TA.tk 30 2147483647 rfl rfl rfl (Val.addL rfl rfl (by first | omega | (simp <;> omega))) ?_
                  | refine TA.tk 30 2147483647 rfl rfl rfl (Val.addS rfl rfl (by first | decide | omega)) ?_
                refine TA.tk 31 4294967295 rfl rfl rfl (Val.assign rfl) ?_
                refine TA.done (by kernel_rfl) ?_
                refine AtX.join () ?_ (Sub.cons rfl (Sub.cons rfl (Sub.nil _))) (by repeat (first | exact ro_refl | exact ro_pre | refine ro_tail ?_ | refine ro_app ?_))
                trivial
              · skip
                first
                  | refine TO.dz 1063780351 (some 37) rfl rfl rfl rfl (Val.does (Val.b2s (l := List.replicate (48 - d.length) 0) rfl us23 ui5 un9 (by simp) (rdS_z (i := 0) rfl))) ?_
                  | refine TO.dz 1063780351 (some 37) rfl rfl rfl rfl (Val.does (Val.b2s (l := List.replicate (48 - d.length) 0) rfl us23 ui5 un9 (by simp) (rdS_z (i := 1) rfl))) ?_
                  | refine TO.dz 1063780351 (some 37) rfl rfl rfl rfl (Val.does (Val.b2s (l := List.replicate (48 - d.length) 0) rfl us23 ui5 un9 (by simp) (rdS_z (i := 2) rfl))) ?_
                  | refine TO.dz 1063780351 (some 37) rfl rfl rfl rfl (Val.does (Val.b2s (l := List.replicate (48 - d.length) 0) rfl us23 ui5 un9 (by simp) (rdS_z (i := 3) rfl))) ?_
                rintro _ _ ⟨rfl, rfl⟩
                refine roK ?_
                refine TA.one 19 (by kernel_rfl) ?_
                first
                  | refine TO.dz 1064304639 (some 27) rfl rfl rfl rfl (Val.does (Val.b2s (l := [Go.X.b8 kd, Go.X.b8 d.length]) rfl us23 ui5 un9 rfl (.some (Rd.get (i := 0) rfl rfl)))) ?_
                  | refine TO.dz 1064304639 (some 27) rfl rfl rfl rfl (Val.does (Val.b2s (l := [Go.X.b8 kd, Go.X.b8 d.length]) rfl us23 ui5 un9 rfl (.some (Rd.get (i := 1) rfl rfl)))) ?_
                  | refine TO.dz 1064304639 (some 27) rfl rfl rfl rfl (Val.does (Val.b2s (l := [Go.X.b8 kd, Go.X.b8 d.length]) rfl us23 ui5 un9 rfl (.some (Rd.get (i := 2) rfl rfl)))) ?_
                  | refine TO.dz 1064304639 (some 27) rfl rfl rfl rfl (Val.does (Val.b2s (l := [Go.X.b8 kd, Go.X.b8 d.length]) rfl us23 ui5 un9 rfl (.some (Rd.get (i := 3) rfl rfl)))) ?_
                rintro _ _ ⟨rfl, rfl⟩
                refine roK ?_
                first
                  | refine TA.tk 20 1065353215 rfl rfl rfl (Val.addL rfl rfl (by first | omega | (simp <;> omega))) ?_
                  | refine TA.tk 20 1065353215 rfl rfl rfl (Val.addS rfl rfl (by first | decide | omega)) ?_
                first
                  | refine TA.tk 23 1073741823 rfl rfl rfl (Val.addL rfl rfl (by first | omega | (simp <;> omega))) ?_
                  | refine TA.tk 23 1073741823 rfl rfl rfl (Val.addS rfl rfl (by first | decide | omega)) ?_
                first
                  | refine TA.tk 30 2147483647 rfl rfl rfl (Val.addL rfl rfl (by first | omega | (simp <;> omega))) ?_
                  | refine TA.tk 30 2147483647 rfl rfl rfl (Val.addS rfl rfl (by first | decide | omega)) ?_
                refine TA.tk 31 4294967295 rfl rfl rfl (Val.assign rfl) ?_
                refine TA.done (by kernel_rfl) ?_
                refine AtX.join () ?_ (Sub.cons rfl (Sub.cons rfl (Sub.nil _))) (by repeat (first | exact ro_refl | exact ro_pre | refine ro_tail ?_ | refine ro_app ?_))
                trivial
          · skip
            first
              | refine TO.dz 258996479 (some 27) rfl rfl rfl rfl (Val.does (Val.b2s (l := [Go.X.b8 kd, Go.X.b8 d.length]) rfl us23 ui5 un9 rfl (.some (Rd.get (i := 0) rfl rfl)))) ?_
              | refine TO.dz 258996479 (some 27) rfl rfl rfl rfl (Val.does (Val.b2s (l := [Go.X.b8 kd, Go.X.b8 d.length]) rfl us23 ui5 un9 rfl (.some (Rd.get (i := 1) rfl rfl)))) ?_
              | refine TO.dz 258996479 (some 27) rfl rfl rfl rfl (Val.does (Val.b2s (l := [Go.X.b8 kd, Go.X.b8 d.length]) rfl us23 ui5 un9 rfl (.some (Rd.get (i := 2) rfl rfl)))) ?_
              | refine TO.dz 258996479 (some 27) rfl rfl rfl rfl (Val.does (Val.b2s (l := [Go.X.b8 kd, Go.X.b8 d.length]) rfl us23 ui5 un9 rfl (.some (Rd.get (i := 3) rfl rfl)))) ?_
            rintro _ _ ⟨rfl, rfl⟩
            refine roK ?_
            refine TA.two 8 28 (by kernel_rfl) ?_ ?_
            · skip
              refine TO.dz 258996735 (some 16) rfl rfl rfl rfl (Does.callF go23 rfl (refPut_fn _ _)) ?_
              rintro _ _ ⟨rfl, rfl⟩
              refine roK ?_
              refine TA.tk 9 258997247 rfl rfl rfl (Val.sliceL (i := 0) (j := 2) rfl un9 rfl rfl rfl rfl (by omega) (by simp)) ?_
              first
                | refine TA.tk 10 258998271 rfl rfl rfl (Val.addL rfl rfl (by first | omega | (simp <;> omega))) ?_
                | refine TA.tk 10 258998271 rfl rfl rfl (Val.addS rfl rfl (by first | decide | omega)) ?_
              first
                | refine TA.tk 20 260046847 rfl rfl rfl (Val.addL rfl rfl (by first | omega | (simp <;> omega))) ?_
                | refine TA.tk 20 260046847 rfl rfl rfl (Val.addS rfl rfl (by first | decide | omega)) ?_
              first
                | refine TA.tk 23 268435455 rfl rfl rfl (Val.addL rfl rfl (by first | omega | (simp <;> omega))) ?_
                | refine TA.tk 23 268435455 rfl rfl rfl (Val.addS rfl rfl (by first | decide | omega)) ?_
              refine TA.one 28 (by kernel_rfl) ?_
              refine TO.dz 536870911 (some 36) rfl rfl rfl rfl (Does.makeSlice (n := 48 - d.length) (c := 48 - d.length) rfl rfl sl23 sz5 by5 ze5 rfl (by omega) (by omega) (by omega) (by omega) (by omega)) ?_
              rintro _ _ ⟨bz, rfl, rfl⟩
              refine roK ?_
              refine TA.one 29 (by kernel_rfl) ?_
              first
                | refine TO.dz 1073741823 (some 37) rfl rfl rfl rfl (Val.does (Val.b2s (l := List.replicate (48 - d.length) 0) rfl us23 ui5 un9 (by simp) (rdS_z (i := 0) rfl))) ?_
                | refine TO.dz 1073741823 (some 37) rfl rfl rfl rfl (Val.does (Val.b2s (l := List.replicate (48 - d.length) 0) rfl us23 ui5 un9 (by simp) (rdS_z (i := 1) rfl))) ?_
                | refine TO.dz 1073741823 (some 37) rfl rfl rfl rfl (Val.does (Val.b2s (l := List.replicate (48 - d.length) 0) rfl us23 ui5 un9 (by simp) (rdS_z (i := 2) rfl))) ?_
                | refine TO.dz 1073741823 (some 37) rfl rfl rfl rfl (Val.does (Val.b2s (l := List.replicate (48 - d.length) 0) rfl us23 ui5 un9 (by simp) (rdS_z (i := 3) rfl))) ?_
              rintro _ _ ⟨rfl, rfl⟩
              refine roK ?_
              first
                | refine TA.tk 30 2147483647 rfl rfl rfl (Val.addL rfl rfl (by first | omega | (simp <;> omega))) ?_
                | refine TA.tk 30 2147483647 rfl rfl rfl (Val.addS rfl rfl (by first | decide | omega)) ?_
              refine TA.tk 31 4294967295 rfl rfl rfl (Val.assign rfl) ?_
              refine TA.done (by kernel_rfl) ?_
              refine AtX.join () ?_ (Sub.cons rfl (Sub.cons rfl (Sub.nil _))) (by repeat (first | exact ro_refl | exact ro_pre | refine ro_tail ?_ | refine ro_app ?_))
              trivial
            · skip
              refine TO.dz 527431935 (some 36) rfl rfl rfl rfl (Does.makeSlice (n := 48 - d.length) (c := 48 - d.length) rfl rfl sl23 sz5 by5 ze5 rfl (by omega) (by omega) (by omega) (by omega) (by omega)) ?_
              rintro _ _ ⟨bz, rfl, rfl⟩
              refine roK ?_
              refine TA.two 8 29 (by kernel_rfl) ?_ ?_
              · skip
                refine TO.dz 527432191 (some 16) rfl rfl rfl rfl (Does.callF go23 rfl (refPut_fn _ _)) ?_
                rintro _ _ ⟨rfl, rfl⟩
                refine roK ?_
                refine TA.tk 9 527432703 rfl rfl rfl (Val.sliceL (i := 0) (j := 2) rfl un9 rfl rfl rfl rfl (by omega) (by simp)) ?_
                first
                  | refine TA.tk 10 527433727 rfl rfl rfl (Val.addL rfl rfl (by first | omega | (simp <;> omega))) ?_
                  | refine TA.tk 10 527433727 rfl rfl rfl (Val.addS rfl rfl (by first | decide | omega)) ?_
                first
                  | refine TA.tk 20 528482303 rfl rfl rfl (Val.addL rfl rfl (by first | omega | (simp <;> omega))) ?_
                  | refine TA.tk 20 528482303 rfl rfl rfl (Val.addS rfl rfl (by first | decide | omega)) ?_
                first
                  | refine TA.tk 23 536870911 rfl rfl rfl (Val.addL rfl rfl (by first | omega | (simp <;> omega))) ?_
                  | refine TA.tk 23 536870911 rfl rfl rfl (Val.addS rfl rfl (by first | decide | omega)) ?_
                refine TA.one 29 (by kernel_rfl) ?_
                first
                  | refine TO.dz 1073741823 (some 37) rfl rfl rfl rfl (Val.does (Val.b2s (l := List.replicate (48 - d.length) 0) rfl us23 ui5 un9 (by simp) (rdS_z (i := 0) rfl))) ?_
                  | refine TO.dz 1073741823 (some 37) rfl rfl rfl rfl (Val.does (Val.b2s (l := List.replicate (48 - d.length) 0) rfl us23 ui5 un9 (by simp) (rdS_z (i := 1) rfl))) ?_
                  | refine TO.dz 1073741823 (some 37) rfl rfl rfl rfl (Val.does (Val.b2s (l := List.replicate (48 - d.length) 0) rfl us23 ui5 un9 (by simp) (rdS_z (i := 2) rfl))) ?_
                  | refine TO.dz 1073741823 (some 37) rfl rfl rfl rfl (Val.does (Val.b2s (l := List.replicate (48 - d.length) 0) rfl us23 ui5 un9 (by simp) (rdS_z (i := 3) rfl))) ?_
                rintro _ _ ⟨rfl, rfl⟩
                refine roK ?_
                first
                  | refine TA.tk 30 2147483647 rfl rfl rfl (Val.addL rfl rfl (by first | omega | (simp <;> omega))) ?_
                  | refine TA.tk 30 2147483647 rfl rfl rfl (Val.addS rfl rfl (by first | decide | omega)) ?_
                refine TA.tk 31 4294967295 rfl rfl rfl (Val.assign rfl) ?_
                refine TA.done (by kernel_rfl) ?_
                refine AtX.join () ?_ (Sub.cons rfl (Sub.cons rfl (Sub.nil _))) (by repeat (first | exact ro_refl | exact ro_pre | refine ro_tail ?_ | refine ro_app ?_))
                trivial
              · skip
                first
                  | refine TO.dz 1064302847 (some 37) rfl rfl rfl rfl (Val.does (Val.b2s (l := List.replicate (48 - d.length) 0) rfl us23 ui5 un9 (by simp) (rdS_z (i := 0) rfl))) ?_
                  | refine TO.dz 1064302847 (some 37) rfl rfl rfl rfl (Val.does (Val.b2s (l := List.replicate (48 - d.length) 0) rfl us23 ui5 un9 (by simp) (rdS_z (i := 1) rfl))) ?_
                  | refine TO.dz 1064302847 (some 37) rfl rfl rfl rfl (Val.does (Val.b2s (l := List.replicate (48 - d.length) 0) rfl us23 ui5 un9 (by simp) (rdS_z (i := 2) rfl))) ?_
                  | refine TO.dz 1064302847 (some 37) rfl rfl rfl rfl (Val.does (Val.b2s (l := List.replicate (48 - d.length) 0) rfl us23 ui5 un9 (by simp) (rdS_z (i := 3) rfl))) ?_
                rintro _ _ ⟨rfl, rfl⟩
                refine roK ?_
                refine TA.one 8 (by kernel_rfl) ?_
                refine TO.dz 1064303103 (some 16) rfl rfl rfl rfl (Does.callF go23 rfl (refPut_fn _ _)) ?_
                rintro _ _ ⟨rfl, rfl⟩
                refine roK ?_
                refine TA.tk 9 1064303615 rfl rfl rfl (Val.sliceL (i := 0) (j := 2) rfl un9 rfl rfl rfl rfl (by omega) (by simp)) ?_
                first
                  | refine TA.tk 10 1064304639 rfl rfl rfl (Val.addL rfl rfl (by first | omega | (simp <;> omega))) ?_
                  | refine TA.tk 10 1064304639 rfl rfl rfl (Val.addS rfl rfl (by first | decide | omega)) ?_
                first
                  | refine TA.tk 20 1065353215 rfl rfl rfl (Val.addL rfl rfl (by first | omega | (simp <;> omega))) ?_
                  | refine TA.tk 20 1065353215 rfl rfl rfl (Val.addS rfl rfl (by first | decide | omega)) ?_
                first
                  | refine TA.tk 23 1073741823 rfl rfl rfl (Val.addL rfl rfl (by first | omega | (simp <;> omega))) ?_
                  | refine TA.tk 23 1073741823 rfl rfl rfl (Val.addS rfl rfl (by first | decide | omega)) ?_
                first
                  | refine TA.tk 30 2147483647 rfl rfl rfl (Val.addL rfl rfl (by first | omega | (simp <;> omega))) ?_
                  | refine TA.tk 30 2147483647 rfl rfl rfl (Val.addS rfl rfl (by first | decide | omega)) ?_
                refine TA.tk 31 4294967295 rfl rfl rfl (Val.assign rfl) ?_
                refine TA.done (by kernel_rfl) ?_
                refine AtX.join () ?_ (Sub.cons rfl (Sub.cons rfl (Sub.nil _))) (by repeat (first | exact ro_refl | exact ro_pre | refine ro_tail ?_ | refine ro_app ?_))
                trivial
          · skip
            refine TO.dz 526907647 (some 36) rfl rfl rfl rfl (Does.makeSlice (n := 48 - d.length) (c := 48 - d.length) rfl rfl sl23 sz5 by5 ze5 rfl (by omega) (by omega) (by omega) (by omega) (by omega)) ?_
            rintro _ _ ⟨bz, rfl, rfl⟩
            refine roK ?_
            refine TA.three 8 19 29 (by kernel_rfl) ?_ ?_ ?_
            · skip
              refine TO.dz 526907903 (some 16) rfl rfl rfl rfl (Does.callF go23 rfl (refPut_fn _ _)) ?_
              rintro _ _ ⟨rfl, rfl⟩
              refine roK ?_
              refine TA.tk 9 526908415 rfl rfl rfl (Val.sliceL (i := 0) (j := 2) rfl un9 rfl rfl rfl rfl (by omega) (by simp)) ?_
              first
                | refine TA.tk 10 526909439 rfl rfl rfl (Val.addL rfl rfl (by first | omega | (simp <;> omega))) ?_
                | refine TA.tk 10 526909439 rfl rfl rfl (Val.addS rfl rfl (by first | decide | omega)) ?_
              refine TA.two 19 29 (by kernel_rfl) ?_ ?_
              · skip
                first
                  | refine TO.dz 527433727 (some 27) rfl rfl rfl rfl (Val.does (Val.b2s (l := [Go.X.b8 kd, Go.X.b8 d.length]) rfl us23 ui5 un9 rfl (.some (Rd.get (i := 0) rfl rfl)))) ?_
                  | refine TO.dz 527433727 (some 27) rfl rfl rfl rfl (Val.does (Val.b2s (l := [Go.X.b8 kd, Go.X.b8 d.length]) rfl us23 ui5 un9 rfl (.some (Rd.get (i := 1) rfl rfl)))) ?_
                  | refine TO.dz 527433727 (some 27) rfl rfl rfl rfl (Val.does (Val.b2s (l := [Go.X.b8 kd, Go.X.b8 d.length]) rfl us23 ui5 un9 rfl (.some (Rd.get (i := 2) rfl rfl)))) ?_
                  | refine TO.dz 527433727 (some 27) rfl rfl rfl rfl (Val.does (Val.b2s (l := [Go.X.b8 kd, Go.X.b8 d.length]) rfl us23 ui5 un9 rfl (.some (Rd.get (i := 3) rfl rfl)))) ?_
                rintro _ _ ⟨rfl, rfl⟩
                refine roK ?_
                first
                  | refine TA.tk 20 528482303 rfl rfl rfl (Val.addL rfl rfl (by first | omega | (simp <;> omega))) ?_
                  | refine TA.tk 20 528482303 rfl rfl rfl (Val.addS rfl rfl (by first | decide | omega)) ?_
                first
                  | refine TA.tk 23 536870911 rfl rfl rfl (Val.addL rfl rfl (by first | omega | (simp <;> omega))) ?_
                  | refine TA.tk 23 536870911 rfl rfl rfl (Val.addS rfl rfl (by first | decide | omega)) ?_
                refine TA.one 29 (by kernel_rfl) ?_
                first
                  | refine TO.dz 1073741823 (some 37) rfl rfl rfl rfl (Val.does (Val.b2s (l := List.replicate (48 - d.length) 0) rfl us23 ui5 un9 (by simp) (rdS_z (i := 0) rfl))) ?_
                  | refine TO.dz 1073741823 (some 37) rfl rfl rfl rfl (Val.does (Val.b2s (l := List.replicate (48 - d.length) 0) rfl us23 ui5 un9 (by simp) (rdS_z (i := 1) rfl))) ?_
                  | refine TO.dz 1073741823 (some 37) rfl rfl rfl rfl (Val.does (Val.b2s (l := List.replicate (48 - d.length) 0) rfl us23 ui5 un9 (by simp) (rdS_z (i := 2) rfl))) ?_
                  | refine TO.dz 1073741823 (some 37) rfl rfl rfl rfl (Val.does (Val.b2s (l := List.replicate (48 - d.length) 0) rfl us23 ui5 un9 (by simp) (rdS_z (i := 3) rfl))) ?_
                rintro _ _ ⟨rfl, rfl⟩
                refine roK ?_
                first
                  | refine TA.tk 30 2147483647 rfl rfl rfl (Val.addL rfl rfl (by first | omega | (simp <;> omega))) ?_
                  | refine TA.tk 30 2147483647 rfl rfl rfl (Val.addS rfl rfl (by first | decide | omega)) ?_
                refine TA.tk 31 4294967295 rfl rfl rfl (Val.assign rfl) ?_
                refine TA.done (by kernel_rfl) ?_
                refine AtX.join () ?_ (Sub.cons rfl (Sub.cons rfl (Sub.nil _))) (by repeat (first | exact ro_refl | exact ro_pre | refine ro_tail ?_ | refine ro_app ?_))
                trivial
              · skip
                first
                  | refine TO.dz 1063780351 (some 37) rfl rfl rfl rfl (Val.does (Val.b2s (l := List.replicate (48 - d.length) 0) rfl us23 ui5 un9 (by simp) (rdS_z (i := 0) rfl))) ?_
                  | refine TO.dz 1063780351 (some 37) rfl rfl rfl rfl (Val.does (Val.b2s (l := List.replicate (48 - d.length) 0) rfl us23 ui5 un9 (by simp) (rdS_z (i := 1) rfl))) ?_
                  | refine TO.dz 1063780351 (some 37) rfl rfl rfl rfl (Val.does (Val.b2s (l := List.replicate (48 - d.length) 0) rfl us23 ui5 un9 (by simp) (rdS_z (i := 2) rfl))) ?_
                  | refine TO.dz 1063780351 (some 37) rfl rfl rfl rfl (Val.does (Val.b2s (l := List.replicate (48 - d.length) 0) rfl us23 ui5 un9 (by simp) (rdS_z (i := 3) rfl))) ?_
                rintro _ _ ⟨rfl, rfl⟩
                refine roK ?_
                refine TA.one 19 (by kernel_rfl) ?_
                first
                  | refine TO.dz 1064304639 (some 27) rfl rfl rfl rfl (Val.does (Val.b2s (l := [Go.X.b8 kd, Go.X.b8 d.length]) rfl us23 ui5 un9 rfl (.some (Rd.get (i := 0) rfl rfl)))) ?_
                  | refine TO.dz 1064304639 (some 27) rfl rfl rfl rfl (Val.does (Val.b2s (l := [Go.X.b8 kd, Go.X.b8 d.length]) rfl us23 ui5 un9 rfl (.some (Rd.get (i := 1) rfl rfl)))) ?_
                  | refine TO.dz 1064304639 (some 27) rfl rfl rfl rfl (Val.does (Val.b2s (l := [Go.X.b8 kd, Go.X.b8 d.length]) rfl us23 ui5 un9 rfl (.some (Rd.get (i := 2) rfl rfl)))) ?_
                  | refine TO.dz 1064304639 (some 27) rfl rfl rfl rfl (Val.does (Val.b2s (l := [Go.X.b8 kd, Go.X.b8 d.length]) rfl us23 ui5 un9 rfl (.some (Rd.get (i := 3) rfl rfl)))) ?_
                rintro _ _ ⟨rfl, rfl⟩
                refine roK ?_
                first
                  | refine TA.tk 20 1065353215 rfl rfl rfl (Val.addL rfl rfl (by first | omega | (simp <;> omega))) ?_
                  | refine TA.tk 20 1065353215 rfl rfl rfl (Val.addS rfl rfl (by first | decide | omega)) ?_
                first
                  | refine TA.tk 23 1073741823 rfl rfl rfl (Val.addL rfl rfl (by first | omega | (simp <;> omega))) ?_
                  | refine TA.tk 23 1073741823 rfl rfl rfl (Val.addS rfl rfl (by first | decide | omega)) ?_
                first
                  | refine TA.tk 30 2147483647 rfl rfl rfl (Val.addL rfl rfl (by first | omega | (simp <;> omega))) ?_
                  | refine TA.tk 30 2147483647 rfl rfl rfl (Val.addS rfl rfl (by first | decide | omega)) ?_
                refine TA.tk 31 4294967295 rfl rfl rfl (Val.assign rfl) ?_
                refine TA.done (by kernel_rfl) ?_
                refine AtX.join () ?_ (Sub.cons rfl (Sub.cons rfl (Sub.nil _))) (by repeat (first | exact ro_refl | exact ro_pre | refine ro_tail ?_ | refine ro_app ?_))
                trivial
            · skip
              first
                | refine TO.dz 527431935 (some 27) rfl rfl rfl rfl (Val.does (Val.b2s (l := [Go.X.b8 kd, Go.X.b8 d.length]) rfl us23 ui5 un9 rfl (.some (Rd.get (i := 0) rfl rfl)))) ?_
                | refine TO.dz 527431935 (some 27) rfl rfl rfl rfl (Val.does (Val.b2s (l := [Go.X.b8 kd, Go.X.b8 d.length]) rfl us23 ui5 un9 rfl (.some (Rd.get (i := 1) rfl rfl)))) ?_
                | refine TO.dz 527431935 (some 27) rfl rfl rfl rfl (Val.does (Val.b2s (l := [Go.X.b8 kd, Go.X.b8 d.length]) rfl us23 ui5 un9 rfl (.some (Rd.get (i := 2) rfl rfl)))) ?_
                | refine TO.dz 527431935 (some 27) rfl rfl rfl rfl (Val.does (Val.b2s (l := [Go.X.b8 kd, Go.X.b8 d.length]) rfl us23 ui5 un9 rfl (.some (Rd.get (i := 3) rfl rfl)))) ?_
              rintro _ _ ⟨rfl, rfl⟩
              refine roK ?_
              refine TA.two 8 29 (by kernel_rfl) ?_ ?_
              · skip
                refine TO.dz 527432191 (some 16) rfl rfl rfl rfl (Does.callF go23 rfl (refPut_fn _ _)) ?_
                rintro _ _ ⟨rfl, rfl⟩
                refine roK ?_
                refine TA.tk 9 527432703 rfl rfl rfl (Val.sliceL (i := 0) (j := 2) rfl un9 rfl rfl rfl rfl (by omega) (by simp)) ?_
                first
                  | refine TA.tk 10 527433727 rfl rfl rfl (Val.addL rfl rfl (by first | omega | (simp <;> omega))) ?_
                  | refine TA.tk 10 527433727 rfl rfl rfl (Val.addS rfl rfl (by first | decide | omega)) ?_
                first
                  | refine TA.tk 20 528482303 rfl rfl rfl (Val.addL rfl rfl (by first | omega | (simp <;> omega))) ?_
                  | refine TA.tk 20 528482303 rfl rfl rfl (Val.addS rfl rfl (by first | decide | omega)) ?_
                first
                  | refine TA.tk 23 536870911 rfl rfl rfl (Val.addL rfl rfl (by first | omega | (simp <;> omega))) ?_
                  | refine TA.tk 23 536870911 rfl rfl rfl (Val.addS rfl rfl (by first | decide | omega)) ?_
                refine TA.one 29 (by kernel_rfl) ?_
                first
                  | refine TO.dz 1073741823 (some 37) rfl rfl rfl rfl (Val.does (Val.b2s (l := List.replicate (48 - d.length) 0) rfl us23 ui5 un9 (by simp) (rdS_z (i := 0) rfl))) ?_
                  | refine TO.dz 1073741823 (some 37) rfl rfl rfl rfl (Val.does (Val.b2s (l := List.replicate (48 - d.length) 0) rfl us23 ui5 un9 (by simp) (rdS_z (i := 1) rfl))) ?_
                  | refine TO.dz 1073741823 (some 37) rfl rfl rfl rfl (Val.does (Val.b2s (l := List.replicate (48 - d.length) 0) rfl us23 ui5 un9 (by simp) (rdS_z (i := 2) rfl))) ?_
                  | refine TO.dz 1073741823 (some 37) rfl rfl rfl rfl (Val.does (Val.b2s (l := List.replicate (48 - d.length) 0) rfl us23 ui5 un9 (by simp) (rdS_z (i := 3) rfl))) ?_
                rintro _ _ ⟨rfl, rfl⟩
                refine roK ?_
                first
                  | refine TA.tk 30 2147483647 rfl rfl rfl (Val.addL rfl rfl (by first | omega | (simp <;> omega))) ?_
                  | refine TA.tk 30 2147483647 rfl rfl rfl (Val.addS rfl rfl (by first | decide | omega)) ?_
                refine TA.tk 31 4294967295 rfl rfl rfl (Val.assign rfl) ?_
                refine TA.done (by kernel_rfl) ?_
                refine AtX.join () ?_ (Sub.cons rfl (Sub.cons rfl (Sub.nil _))) (by repeat (first | exact ro_refl | exact ro_pre | refine ro_tail ?_ | refine ro_app ?_))
                trivial
              · skip
                first
                  | refine TO.dz 1064302847 (some 37) rfl rfl rfl rfl (Val.does (Val.b2s (l := List.replicate (48 - d.length) 0) rfl us23 ui5 un9 (by simp) (rdS_z (i := 0) rfl))) ?_
                  | refine TO.dz 1064302847 (some 37) rfl rfl rfl rfl (Val.does (Val.b2s (l := List.replicate (48 - d.length) 0) rfl us23 ui5 un9 (by simp) (rdS_z (i := 1) rfl))) ?_
                  | refine TO.dz 1064302847 (some 37) rfl rfl rfl rfl (Val.does (Val.b2s (l := List.replicate (48 - d.length) 0) rfl us23 ui5 un9 (by simp) (rdS_z (i := 2) rfl))) ?_
                  | refine TO.dz 1064302847 (some 37) rfl rfl rfl rfl (Val.does (Val.b2s (l := List.replicate (48 - d.length) 0) rfl us23 ui5 un9 (by simp) (rdS_z (i := 3) rfl))) ?_
                rintro _ _ ⟨rfl, rfl⟩
                refine roK ?_
                refine TA.one 8 (by kernel_rfl) ?_
                refine TO.dz 1064303103 (some 16) rfl rfl rfl rfl (Does.callF go23 rfl (refPut_fn _ _)) ?_
                rintro _ _ ⟨rfl, rfl⟩
                refine roK ?_
                refine TA.tk 9 1064303615 rfl rfl rfl (Val.sliceL (i := 0) (j := 2) rfl un9 rfl rfl rfl rfl (by omega) (by simp)) ?_
                first
                  | refine TA.tk 10 1064304639 rfl rfl rfl (Val.addL rfl rfl (by first | omega | (simp <;> omega))) ?_
                  | refine TA.tk 10 1064304639 rfl rfl rfl (Val.addS rfl rfl (by first | decide | omega)) ?_
                first
                  | refine TA.tk 20 1065353215 rfl rfl rfl (Val.addL rfl rfl (by first | omega | (simp <;> omega))) ?_
                  | refine TA.tk 20 1065353215 rfl rfl rfl (Val.addS rfl rfl (by first | decide | omega)) ?_
                first
                  | refine TA.tk 23 1073741823 rfl rfl rfl (Val.addL rfl rfl (by first | omega | (simp <;> omega))) ?_
                  | refine TA.tk 23 1073741823 rfl rfl rfl (Val.addS rfl rfl (by first | decide | omega)) ?_
                first
                  | refine TA.tk 30 2147483647 rfl rfl rfl (Val.addL rfl rfl (by first | omega | (simp <;> omega))) ?_
                  | refine TA.tk 30 2147483647 rfl rfl rfl (Val.addS rfl rfl (by first | decide | omega)) ?_
                refine TA.tk 31 4294967295 rfl rfl rfl (Val.assign rfl) ?_
                refine TA.done (by kernel_rfl) ?_
                refine AtX.join () ?_ (Sub.cons rfl (Sub.cons rfl (Sub.nil _))) (by repeat (first | exact ro_refl | exact ro_pre | refine ro_tail ?_ | refine ro_app ?_))
                trivial
            · skip
              first
                | refine TO.dz 1063778559 (some 37) rfl rfl rfl rfl (Val.does (Val.b2s (l := List.replicate (48 - d.length) 0) rfl us23 ui5 un9 (by simp) (rdS_z (i := 0) rfl))) ?_
                | refine TO.dz 1063778559 (some 37) rfl rfl rfl rfl (Val.does (Val.b2s (l := List.replicate (48 - d.length) 0) rfl us23 ui5 un9 (by simp) (rdS_z (i := 1) rfl))) ?_
                | refine TO.dz 1063778559 (some 37) rfl rfl rfl rfl (Val.does (Val.b2s (l := List.replicate (48 - d.length) 0) rfl us23 ui5 un9 (by simp) (rdS_z (i := 2) rfl))) ?_
                | refine TO.dz 1063778559 (some 37) rfl rfl rfl rfl (Val.does (Val.b2s (l := List.replicate (48 - d.length) 0) rfl us23 ui5 un9 (by simp) (rdS_z (i := 3) rfl))) ?_
              rintro _ _ ⟨rfl, rfl⟩
              refine roK ?_
              refine TA.two 8 19 (by kernel_rfl) ?_ ?_
              · skip
                refine TO.dz 1063778815 (some 16) rfl rfl rfl rfl (Does.callF go23 rfl (refPut_fn _ _)) ?_
                rintro _ _ ⟨rfl, rfl⟩
                refine roK ?_
                refine TA.tk 9 1063779327 rfl rfl rfl (Val.sliceL (i := 0) (j := 2) rfl un9 rfl rfl rfl rfl (by omega) (by simp)) ?_
                first
                  | refine TA.tk 10 1063780351 rfl rfl rfl (Val.addL rfl rfl (by first | omega | (simp <;> omega))) ?_
                  | refine TA.tk 10 1063780351 rfl rfl rfl (Val.addS rfl rfl (by first | decide | omega)) ?_
                refine TA.one 19 (by kernel_rfl) ?_
                first
                  | refine TO.dz 1064304639 (some 27) rfl rfl rfl rfl (Val.does (Val.b2s (l := [Go.X.b8 kd, Go.X.b8 d.length]) rfl us23 ui5 un9 rfl (.some (Rd.get (i := 0) rfl rfl)))) ?_
                  | refine TO.dz 1064304639 (some 27) rfl rfl rfl rfl (Val.does (Val.b2s (l := [Go.X.b8 kd, Go.X.b8 d.length]) rfl us23 ui5 un9 rfl (.some (Rd.get (i := 1) rfl rfl)))) ?_
                  | refine TO.dz 1064304639 (some 27) rfl rfl rfl rfl (Val.does (Val.b2s (l := [Go.X.b8 kd, Go.X.b8 d.length]) rfl us23 ui5 un9 rfl (.some (Rd.get (i := 2) rfl rfl)))) ?_
                  | refine TO.dz 1064304639 (some 27) rfl rfl rfl rfl (Val.does (Val.b2s (l := [Go.X.b8 kd, Go.X.b8 d.length]) rfl us23 ui5 un9 rfl (.some (Rd.get (i := 3) rfl rfl)))) ?_
                rintro _ _ ⟨rfl, rfl⟩
                refine roK ?_
                first
                  | refine TA.tk 20 1065353215 rfl rfl rfl (Val.addL rfl rfl (by first | omega | (simp <;> omega))) ?_
                  | refine TA.tk 20 1065353215 rfl rfl rfl (Val.addS rfl rfl (by first | decide | omega)) ?_
                first
                  | refine TA.tk 23 1073741823 rfl rfl rfl (Val.addL rfl rfl (by first | omega | (simp <;> omega))) ?_
                  | refine TA.tk 23 1073741823 rfl rfl rfl (Val.addS rfl rfl (by first | decide | omega)) ?_
                first
                  | refine TA.tk 30 2147483647 rfl rfl rfl (Val.addL rfl rfl (by first | omega | (simp <;> omega))) ?_
                  | refine TA.tk 30 2147483647 rfl rfl rfl (Val.addS rfl rfl (by first | decide | omega)) ?_
                refine TA.tk 31 4294967295 rfl rfl rfl (Val.assign rfl) ?_
                refine TA.done (by kernel_rfl) ?_
                refine AtX.join () ?_ (Sub.cons rfl (Sub.cons rfl (Sub.nil _))) (by repeat (first | exact ro_refl | exact ro_pre | refine ro_tail ?_ | refine ro_app ?_))
                trivial
              · skip
                first
                  | refine TO.dz 1064302847 (some 27) rfl rfl rfl rfl (Val.does (Val.b2s (l := [Go.X.b8 kd, Go.X.b8 d.length]) rfl us23 ui5 un9 rfl (.some (Rd.get (i := 0) rfl rfl)))) ?_
                  | refine TO.dz 1064302847 (some 27) rfl rfl rfl rfl (Val.does (Val.b2s (l := [Go.X.b8 kd, Go.X.b8 d.length]) rfl us23 ui5 un9 rfl (.some (Rd.get (i := 1) rfl rfl)))) ?_
                  | refine TO.dz 1064302847 (some 27) rfl rfl rfl rfl (Val.does (Val.b2s (l := [Go.X.b8 kd, Go.X.b8 d.length]) rfl us23 ui5 un9 rfl (.some (Rd.get (i := 2) rfl rfl)))) ?_
                  | refine TO.dz 1064302847 (some 27) rfl rfl rfl rfl (Val.does (Val.b2s (l := [Go.X.b8 kd, Go.X.b8 d.length]) rfl us23 ui5 un9 rfl (.some (Rd.get (i := 3) rfl rfl)))) ?_
                rintro _ _ ⟨rfl, rfl⟩
                refine roK ?_
                refine TA.one 8 (by kernel_rfl) ?_
                refine TO.dz 1064303103 (some 16) rfl rfl rfl rfl (Does.callF go23 rfl (refPut_fn _ _)) ?_
                rintro _ _ ⟨rfl, rfl⟩
                refine roK ?_
                refine TA.tk 9 1064303615 rfl rfl rfl (Val.sliceL (i := 0) (j := 2) rfl un9 rfl rfl rfl rfl (by omega) (by simp)) ?_
                first
                  | refine TA.tk 10 1064304639 rfl rfl rfl (Val.addL rfl rfl (by first | omega | (simp <;> omega))) ?_
                  | refine TA.tk 10 1064304639 rfl rfl rfl (Val.addS rfl rfl (by first | decide | omega)) ?_
                first
                  | refine TA.tk 20 1065353215 rfl rfl rfl (Val.addL rfl rfl (by first | omega | (simp <;> omega))) ?_
                  | refine TA.tk 20 1065353215 rfl rfl rfl (Val.addS rfl rfl (by first | decide | omega)) ?_
                first
                  | refine TA.tk 23 1073741823 rfl rfl rfl (Val.addL rfl rfl (by first | omega | (simp <;> omega))) ?_
                  | refine TA.tk 23 1073741823 rfl rfl rfl (Val.addS rfl rfl (by first | decide | omega)) ?_
                first
                  | refine TA.tk 30 2147483647 rfl rfl rfl (Val.addL rfl rfl (by first | omega | (simp <;> omega))) ?_
                  | refine TA.tk 30 2147483647 rfl rfl rfl (Val.addS rfl rfl (by first | decide | omega)) ?_
                refine TA.tk 31 4294967295 rfl rfl rfl (Val.assign rfl) ?_
                refine TA.done (by kernel_rfl) ?_
                refine AtX.join () ?_ (Sub.cons rfl (Sub.cons rfl (Sub.nil _))) (by repeat (first | exact ro_refl | exact ro_pre | refine ro_tail ?_ | refine ro_app ?_))
                trivial
        · skip
          refine TO.dz 526645503 (some 36) rfl rfl rfl rfl (Does.makeSlice (n := 48 - d.length) (c := 48 - d.length) rfl rfl sl23 sz5 by5 ze5 rfl (by omega) (by omega) (by omega) (by omega) (by omega)) ?_
          rintro _ _ ⟨bz, rfl, rfl⟩
          refine roK ?_
          refine TA.three 8 18 29 (by kernel_rfl) ?_ ?_ ?_
          · skip
            refine TO.dz 526645759 (some 16) rfl rfl rfl rfl (Does.callF go23 rfl (refPut_fn _ _)) ?_
            rintro _ _ ⟨rfl, rfl⟩
            refine roK ?_
            refine TA.tk 9 526646271 rfl rfl rfl (Val.sliceL (i := 0) (j := 2) rfl un9 rfl rfl rfl rfl (by omega) (by simp)) ?_
            first
              | refine TA.tk 10 526647295 rfl rfl rfl (Val.addL rfl rfl (by first | omega | (simp <;> omega))) ?_
              | refine TA.tk 10 526647295 rfl rfl rfl (Val.addS rfl rfl (by first | decide | omega)) ?_
            refine TA.two 18 29 (by kernel_rfl) ?_ ?_
            · skip
              refine TO.dz 526909439 (some 26) rfl rfl rfl rfl (Does.buildSlice sl23 sz5 ze5 (by decide) (by decide) rfl rfl rfl) ?_
              rintro _ _ ⟨b19, rfl, rfl⟩
              refine roK ?_
              refine TA.two 19 29 (by kernel_rfl) ?_ ?_
              · skip
                first
                  | refine TO.dz 527433727 (some 27) rfl rfl rfl rfl (Val.does (Val.b2s (l := [Go.X.b8 kd, Go.X.b8 d.length]) rfl us23 ui5 un9 rfl (.some (Rd.get (i := 0) rfl rfl)))) ?_
                  | refine TO.dz 527433727 (some 27) rfl rfl rfl rfl (Val.does (Val.b2s (l := [Go.X.b8 kd, Go.X.b8 d.length]) rfl us23 ui5 un9 rfl (.some (Rd.get (i := 1) rfl rfl)))) ?_
                  | refine TO.dz 527433727 (some 27) rfl rfl rfl rfl (Val.does (Val.b2s (l := [Go.X.b8 kd, Go.X.b8 d.length]) rfl us23 ui5 un9 rfl (.some (Rd.get (i := 2) rfl rfl)))) ?_
                  | refine TO.dz 527433727 (some 27) rfl rfl rfl rfl (Val.does (Val.b2s (l := [Go.X.b8 kd, Go.X.b8 d.length]) rfl us23 ui5 un9 rfl (.some (Rd.get (i := 3) rfl rfl)))) ?_
                rintro _ _ ⟨rfl, rfl⟩
                refine roK ?_
                first
                  | refine TA.tk 20 528482303 rfl rfl rfl (Val.addL rfl rfl (by first | omega | (simp <;> omega))) ?_
                  | refine TA.tk 20 528482303 rfl rfl rfl (Val.addS rfl rfl (by first | decide | omega)) ?_
                first
                  | refine TA.tk 23 536870911 rfl rfl rfl (Val.addL rfl rfl (by first | omega | (simp <;> omega))) ?_
                  | refine TA.tk 23 536870911 rfl rfl rfl (Val.addS rfl rfl (by first | decide | omega)) ?_
                refine TA.one 29 (by kernel_rfl) ?_
                first
                  | refine TO.dz 1073741823 (some 37) rfl rfl rfl rfl (Val.does (Val.b2s (l := List.replicate (48 - d.length) 0) rfl us23 ui5 un9 (by simp) (rdS_z (i := 0) rfl))) ?_
                  | refine TO.dz 1073741823 (some 37) rfl rfl rfl rfl (Val.does (Val.b2s (l := List.replicate (48 - d.length) 0) rfl us23 ui5 un9 (by simp) (rdS_z (i := 1) rfl))) ?_
                  | refine TO.dz 1073741823 (some 37) rfl rfl rfl rfl (Val.does (Val.b2s (l := List.replicate (48 - d.length) 0) rfl us23 ui5 un9 (by simp) (rdS_z (i := 2) rfl))) ?_
                  | refine TO.dz 1073741823 (some 37) rfl rfl rfl rfl (Val.does (Val.b2s (l := List.replicate (48 - d.length) 0) rfl us23 ui5 un9 (by simp) (rdS_z (i := 3) rfl))) ?_
                rintro _ _ ⟨rfl, rfl⟩
                refine roK ?_
                first
                  | refine TA.tk 30 2147483647 rfl rfl rfl (Val.addL rfl rfl (by first | omega | (simp <;> omega))) ?_
                  | refine TA.tk 30 2147483647 rfl rfl rfl (Val.addS rfl rfl (by first | decide | omega)) ?_
                refine TA.tk 31 4294967295 rfl rfl rfl (Val.assign rfl) ?_
                refine TA.done (by kernel_rfl) ?_
                refine AtX.join () ?_ (Sub.cons rfl (Sub.cons rfl (Sub.nil _))) (by repeat (first | exact ro_refl | exact ro_pre | refine ro_tail ?_ | refine ro_app ?_))
                trivial
              · skip
                first
                  | refine TO.dz 1063780351 (some 37) rfl rfl rfl rfl (Val.does (Val.b2s (l := List.replicate (48 - d.length) 0) rfl us23 ui5 un9 (by simp) (rdS_z (i := 0) rfl))) ?_
                  | refine TO.dz 1063780351 (some 37) rfl rfl rfl rfl (Val.does (Val.b2s (l := List.replicate (48 - d.length) 0) rfl us23 ui5 un9 (by simp) (rdS_z (i := 1) rfl))) ?_
                  | refine TO.dz 1063780351 (some 37) rfl rfl rfl rfl (Val.does (Val.b2s (l := List.replicate (48 - d.length) 0) rfl us23 ui5 un9 (by simp) (rdS_z (i := 2) rfl))) ?_
                  | refine TO.dz 1063780351 (some 37) rfl rfl rfl rfl (Val.does (Val.b2s (l := List.replicate (48 - d.length) 0) rfl us23 ui5 un9 (by simp) (rdS_z (i := 3) rfl))) ?_
                rintro _ _ ⟨rfl, rfl⟩
                refine roK ?_
                refine TA.one 19 (by kernel_rfl) ?_
                first
                  | refine TO.dz 1064304639 (some 27) rfl rfl rfl rfl (Val.does (Val.b2s (l := [Go.X.b8 kd, Go.X.b8 d.length]) rfl us23 ui5 un9 rfl (.some (Rd.get (i := 0) rfl rfl)))) ?_
                  | refine TO.dz 1064304639 (some 27) rfl rfl rfl rfl (Val.does (Val.b2s (l := [Go.X.b8 kd, Go.X.b8 d.length]) rfl us23 ui5 un9 rfl (.some (Rd.get (i := 1) rfl rfl)))) ?_
                  | refine TO.dz 1064304639 (some 27) rfl rfl rfl rfl (Val.does (Val.b2s (l := [Go.X.b8 kd, Go.X.b8 d.length]) rfl us23 ui5 un9 rfl (.some (Rd.get (i := 2) rfl rfl)))) ?_
                  | refine TO.dz 1064304639 (some 27) rfl rfl rfl rfl (Val.does (Val.b2s (l := [Go.X.b8 kd, Go.X.b8 d.length]) rfl us23 ui5 un9 rfl (.some (Rd.get (i := 3) rfl rfl)))) ?_
                rintro _ _ ⟨rfl, rfl⟩
                refine roK ?_
                first
                  | refine TA.tk 20 1065353215 rfl rfl rfl (Val.addL rfl rfl (by first | omega | (simp <;> omega))) ?_
                  | refine TA.tk 20 1065353215 rfl rfl rfl (Val.addS rfl rfl (by first | decide | omega)) ?_
                first
                  | refine TA.tk 23 1073741823 rfl rfl rfl (Val.addL rfl rfl (by first | omega | (simp <;> omega))) ?_
                  | refine TA.tk 23 1073741823 rfl rfl rfl (Val.addS rfl rfl (by first | decide | omega)) ?_
                first
                  | refine TA.tk 30 2147483647 rfl rfl rfl (Val.addL rfl rfl (by first | omega | (simp <;> omega))) ?_
                  | refine TA.tk 30 2147483647 rfl rfl rfl (Val.addS rfl rfl (by first | decide | omega)) ?_
                refine TA.tk 31 4294967295 rfl rfl rfl (Val.assign rfl) ?_
                refine TA.done (by kernel_rfl) ?_
                refine AtX.join () ?_ (Sub.cons rfl (Sub.cons rfl (Sub.nil _))) (by repeat (first | exact ro_refl | exact ro_pre | refine ro_tail ?_ | refine ro_app ?_))
                trivial
            · skip
              first
                | refine TO.dz 1063518207 (some 37) rfl rfl rfl rfl (Val.does (Val.b2s (l := List.replicate (48 - d.length) 0) rfl us23 ui5 un9 (by simp) (rdS_z (i := 0) rfl))) ?_
                | refine TO.dz 1063518207 (some 37) rfl rfl rfl rfl (Val.does (Val.b2s (l := List.replicate (48 - d.length) 0) rfl us23 ui5 un9 (by simp) (rdS_z (i := 1) rfl))) ?_
                | refine TO.dz 1063518207 (some 37) rfl rfl rfl rfl (Val.does (Val.b2s (l := List.replicate (48 - d.length) 0) rfl us23 ui5 un9 (by simp) (rdS_z (i := 2) rfl))) ?_
                | refine TO.dz 1063518207 (some 37) rfl rfl rfl rfl (Val.does (Val.b2s (l := List.replicate (48 - d.length) 0) rfl us23 ui5 un9 (by simp) (rdS_z (i := 3) rfl))) ?_
              rintro _ _ ⟨rfl, rfl⟩
              refine roK ?_
              refine TA.one 18 (by kernel_rfl) ?_
              refine TO.dz 1063780351 (some 26) rfl rfl rfl rfl (Does.buildSlice sl23 sz5 ze5 (by decide) (by decide) rfl rfl rfl) ?_
              rintro _ _ ⟨b20, rfl, rfl⟩
              refine roK ?_
              refine TA.one 19 (by kernel_rfl) ?_
              first
                | refine TO.dz 1064304639 (some 27) rfl rfl rfl rfl (Val.does (Val.b2s (l := [Go.X.b8 kd, Go.X.b8 d.length]) rfl us23 ui5 un9 rfl (.some (Rd.get (i := 0) rfl rfl)))) ?_
                | refine TO.dz 1064304639 (some 27) rfl rfl rfl rfl (Val.does (Val.b2s (l := [Go.X.b8 kd, Go.X.b8 d.length]) rfl us23 ui5 un9 rfl (.some (Rd.get (i := 1) rfl rfl)))) ?_
                | refine TO.dz 1064304639 (some 27) rfl rfl rfl rfl (Val.does (Val.b2s (l := [Go.X.b8 kd, Go.X.b8 d.length]) rfl us23 ui5 un9 rfl (.some (Rd.get (i := 2) rfl rfl)))) ?_
                | refine TO.dz 1064304639 (some 27) rfl rfl rfl rfl (Val.does (Val.b2s (l := [Go.X.b8 kd, Go.X.b8 d.length]) rfl us23 ui5 un9 rfl (.some (Rd.get (i := 3) rfl rfl)))) ?_
              rintro _ _ ⟨rfl, rfl⟩
              refine roK ?_
              first
                | refine TA.tk 20 1065353215 rfl rfl rfl (Val.addL rfl rfl (by first | omega | (simp <;> omega))) ?_
                | refine TA.tk 20 1065353215 rfl rfl rfl (Val.addS rfl rfl (by first | decide | omega)) ?_
              first
                | refine TA.tk 23 1073741823 rfl rfl rfl (Val.addL rfl rfl (by first | omega | (simp <;> omega))) ?_
                | refine TA.tk 23 1073741823 rfl rfl rfl (Val.addS rfl rfl (by first | decide | omega)) ?_
              first
                | refine TA.tk 30 2147483647 rfl rfl rfl (Val.addL rfl rfl (by first | omega | (simp <;> omega))) ?_
                | refine TA.tk 30 2147483647 rfl rfl rfl (Val.addS rfl rfl (by first | decide | omega)) ?_
              refine TA.tk 31 4294967295 rfl rfl rfl (Val.assign rfl) ?_
              refine TA.done (by kernel_rfl) ?_
              refine AtX.join () ?_ (Sub.cons rfl (Sub.cons rfl (Sub.nil _))) (by repeat (first | exact ro_refl | exact ro_pre | refine ro_tail ?_ | refine ro_app ?_))
              trivial
          · skip
            refine TO.dz 526907647 (some 26) rfl rfl rfl rfl (Does.buildSlice sl23 sz5 ze5 (by decide) (by decide) rfl rfl rfl) ?_
            rintro _ _ ⟨b21, rfl, rfl⟩
            refine roK ?_
            refine TA.three 8 19 29 (by kernel_rfl) ?_ ?_ ?_
            · skip
              refine TO.dz 526907903 (some 16) rfl rfl rfl rfl (Does.callF go23 rfl (refPut_fn _ _)) ?_
              rintro _ _ ⟨rfl, rfl⟩
              refine roK ?_
              refine TA.tk 9 526908415 rfl rfl rfl (Val.sliceL (i := 0) (j := 2) rfl un9 rfl rfl rfl rfl (by omega) (by simp)) ?_
              first
                | refine TA.tk 10 526909439 rfl rfl rfl (Val.addL rfl rfl (by first | omega | (simp <;> omega))) ?_
                | refine TA.tk 10 526909439 rfl rfl rfl (Val.addS rfl rfl (by first | decide | omega)) ?_
              refine TA.two 19 29 (by kernel_rfl) ?_ ?_
              · skip
                first
                  | refine TO.dz 527433727 (some 27) rfl rfl rfl rfl (Val.does (Val.b2s (l := [Go.X.b8 kd, Go.X.b8 d.length]) rfl us23 ui5 un9 rfl (.some (Rd.get (i := 0) rfl rfl)))) ?_
                  | refine TO.dz 527433727 (some 27) rfl rfl rfl rfl (Val.does (Val.b2s (l := [Go.X.b8 kd, Go.X.b8 d.length]) rfl us23 ui5 un9 rfl (.some (Rd.get (i := 1) rfl rfl)))) ?_
                  | refine TO.dz 527433727 (some 27) rfl rfl rfl rfl (Val.does (Val.b2s (l := [Go.X.b8 kd, Go.X.b8 d.length]) rfl us23 ui5 un9 rfl (.some (Rd.get (i := 2) rfl rfl)))) ?_
                  | refine TO.dz 527433727 (some 27) rfl rfl rfl rfl (Val.does (Val.b2s (l := [Go.X.b8 kd, Go.X.b8 d.length]) rfl us23 ui5 un9 rfl (.some (Rd.get (i := 3) rfl rfl)))) ?_
                rintro _ _ ⟨rfl, rfl⟩
                refine roK ?_
                first
                  | refine TA.tk 20 528482303 rfl rfl rfl (Val.addL rfl rfl (by first | omega | (simp <;> omega))) ?_
                  | refine TA.tk 20 528482303 rfl rfl rfl (Val.addS rfl rfl (by first | decide | omega)) ?_
                first
                  | refine TA.tk 23 536870911 rfl rfl rfl (Val.addL rfl rfl (by first | omega | (simp <;> omega))) ?_
                  | refine TA.tk 23 536870911 rfl rfl rfl (Val.addS rfl rfl (by first | decide | omega)) ?_
                refine TA.one 29 (by kernel_rfl) ?_
                first
                  | refine TO.dz 1073741823 (some 37) rfl rfl rfl rfl (Val.does (Val.b2s (l := List.replicate (48 - d.length) 0) rfl us23 ui5 un9 (by simp) (rdS_z (i := 0) rfl))) ?_
                  | refine TO.dz 1073741823 (some 37) rfl rfl rfl rfl (Val.does (Val.b2s (l := List.replicate (48 - d.length) 0) rfl us23 ui5 un9 (by simp) (rdS_z (i := 1) rfl))) ?_
                  | refine TO.dz 1073741823 (some 37) rfl rfl rfl rfl (Val.does (Val.b2s (l := List.replicate (48 - d.length) 0) rfl us23 ui5 un9 (by simp) (rdS_z (i := 2) rfl))) ?_
                  | refine TO.dz 1073741823 (some 37) rfl rfl rfl rfl (Val.does (Val.b2s (l := List.replicate (48 - d.length) 0) rfl us23 ui5 un9 (by simp) (rdS_z (i := 3) rfl))) ?_
                rintro _ _ ⟨rfl, rfl⟩
                refine roK ?_
                first
                  | refine TA.tk 30 2147483647 rfl rfl rfl (Val.addL rfl rfl (by first | omega | (simp <;> omega))) ?_
                  | refine TA.tk 30 2147483647 rfl rfl rfl (Val.addS rfl rfl (by first | decide | omega)) ?_
                refine TA.tk 31 4294967295 rfl rfl rfl (Val.assign rfl) ?_
                refine TA.done (by kernel_rfl) ?_
                refine AtX.join () ?_ (Sub.cons rfl (Sub.cons rfl (Sub.nil _))) (by repeat (first | exact ro_refl | exact ro_pre | refine ro_tail ?_ | refine ro_app ?_))
                trivial
              · skip
                first
                  | refine TO.dz 1063780351 (some 37) rfl rfl rfl rfl (Val.does (Val.b2s (l := List.replicate (48 - d.length) 0) rfl us23 ui5 un9 (by simp) (rdS_z (i := 0) rfl))) ?_
                  | refine TO.dz 1063780351 (some 37) rfl rfl rfl rfl (Val.does (Val.b2s (l := List.replicate (48 - d.length) 0) rfl us23 ui5 un9 (by simp) (rdS_z (i := 1) rfl))) ?_
                  | refine TO.dz 1063780351 (some 37) rfl rfl rfl rfl (Val.does (Val.b2s (l := List.replicate (48 - d.length) 0) rfl us23 ui5 un9 (by simp) (rdS_z (i := 2) rfl))) ?_
                  | refine TO.dz 1063780351 (some 37) rfl rfl rfl rfl (Val.does (Val.b2s (l := List.replicate (48 - d.length) 0) rfl us23 ui5 un9 (by simp) (rdS_z (i := 3) rfl))) ?_
                rintro _ _ ⟨rfl, rfl⟩
                refine roK ?_
                refine TA.one 19 (by kernel_rfl) ?_
                first
                  | refine TO.dz 1064304639 (some 27) rfl rfl rfl rfl (Val.does (Val.b2s (l := [Go.X.b8 kd, Go.X.b8 d.length]) rfl us23 ui5 un9 rfl (.some (Rd.get (i := 0) rfl rfl)))) ?_
                  | refine TO.dz 1064304639 (some 27) rfl rfl rfl rfl (Val.does (Val.b2s (l := [Go.X.b8 kd, Go.X.b8 d.length]) rfl us23 ui5 un9 rfl (.some (Rd.get (i := 1) rfl rfl)))) ?_
                  | refine TO.dz 1064304639 (some 27) rfl rfl rfl rfl (Val.does (Val.b2s (l := [Go.X.b8 kd, Go.X.b8 d.length]) rfl us23 ui5 un9 rfl (.some (Rd.get (i := 2) rfl rfl)))) ?_
                  | refine TO.dz 1064304639 (some 27) rfl rfl rfl rfl (Val.does (Val.b2s (l := [Go.X.b8 kd, Go.X.b8 d.length]) rfl us23 ui5 un9 rfl (.some (Rd.get (i := 3) rfl rfl)))) ?_
                rintro _ _ ⟨rfl, rfl⟩
                refine roK ?_
                first
                  | refine TA.tk 20 1065353215 rfl rfl rfl (Val.addL rfl rfl (by first | omega | (simp <;> omega))) ?_
                  | refine TA.tk 20 1065353215 rfl rfl rfl (Val.addS rfl rfl (by first | decide | omega)) ?_
                first
                  | refine TA.tk 23 1073741823 rfl rfl rfl (Val.addL rfl rfl (by first | omega | (simp <;> omega))) ?_
                  | refine TA.tk 23 1073741823 rfl rfl rfl (Val.addS rfl rfl (by first | decide | omega)) ?_
                first
                  | refine TA.tk 30 2147483647 rfl rfl rfl (Val.addL rfl rfl (by first | omega | (simp <;> omega))) ?_
                  | refine TA.tk 30 2147483647 rfl rfl rfl (Val.addS rfl rfl (by first | decide | omega)) ?_
                refine TA.tk 31 4294967295 rfl rfl rfl (Val.assign rfl) ?_
                refine TA.done (by kernel_rfl) ?_
                refine AtX.join () ?_ (Sub.cons rfl (Sub.cons rfl (Sub.nil _))) (by repeat (first | exact ro_refl | exact ro_pre | refine ro_tail ?_ | refine ro_app ?_))
                trivial
            · skip
              first
                | refine TO.dz 527431935 (some 27) rfl rfl rfl rfl (Val.does (Val.b2s (l := [Go.X.b8 kd, Go.X.b8 d.length]) rfl us23 ui5 un9 rfl (.some (Rd.get (i := 0) rfl rfl)))) ?_
                | refine TO.dz 527431935 (some 27) rfl rfl rfl rfl (Val.does (Val.b2s (l := [Go.X.b8 kd, Go.X.b8 d.length]) rfl us23 ui5 un9 rfl (.some (Rd.get (i := 1) rfl rfl)))) ?_
                | refine TO.dz 527431935 (some 27) rfl rfl rfl rfl (Val.does (Val.b2s (l := [Go.X.b8 kd, Go.X.b8 d.length]) rfl us23 ui5 un9 rfl (.some (Rd.get (i := 2) rfl rfl)))) ?_
                | refine TO.dz 527431935 (some 27) rfl rfl rfl rfl (Val.does (Val.b2s (l := [Go.X.b8 kd, Go.X.b8 d.length]) rfl us23 ui5 un9 rfl (.some (Rd.get (i := 3) rfl rfl)))) ?_
              rintro _ _ ⟨rfl, rfl⟩
              refine roK ?_
              refine TA.two 8 29 (by kernel_rfl) ?_ ?_
              · skip
                refine TO.dz 527432191 (some 16) rfl rfl rfl rfl (Does.callF go23 rfl (refPut_fn _ _)) ?_
                rintro _ _ ⟨rfl, rfl⟩
                refine roK ?_
                refine TA.tk 9 527432703 rfl rfl rfl (Val.sliceL (i := 0) (j := 2) rfl un9 rfl rfl rfl rfl (by omega) (by simp)) ?_
                first
                  | refine TA.tk 10 527433727 rfl rfl rfl (Val.addL rfl rfl (by first | omega | (simp <;> omega))) ?_
                  | refine TA.tk 10 527433727 rfl rfl rfl (Val.addS rfl rfl (by first | decide | omega)) ?_
                first
                  | refine TA.tk 20 528482303 rfl rfl rfl (Val.addL rfl rfl (by first | omega | (simp <;> omega))) ?_
                  | refine TA.tk 20 528482303 rfl rfl rfl (Val.addS rfl rfl (by first | decide | omega)) ?_
                first
                  | refine TA.tk 23 536870911 rfl rfl rfl (Val.addL rfl rfl (by first | omega | (simp <;> omega))) ?_
                  | refine TA.tk 23 536870911 rfl rfl rfl (Val.addS rfl rfl (by first | decide | omega)) ?_
                refine TA.one 29 (by kernel_rfl) ?_
                first
                  | refine TO.dz 1073741823 (some 37) rfl rfl rfl rfl (Val.does (Val.b2s (l := List.replicate (48 - d.length) 0) rfl us23 ui5 un9 (by simp) (rdS_z (i := 0) rfl))) ?_
                  | refine TO.dz 1073741823 (some 37) rfl rfl rfl rfl (Val.does (Val.b2s (l := List.replicate (48 - d.length) 0) rfl us23 ui5 un9 (by simp) (rdS_z (i := 1) rfl))) ?_
                  | refine TO.dz 1073741823 (some 37) rfl rfl rfl rfl (Val.does (Val.b2s (l := List.replicate (48 - d.length) 0) rfl us23 ui5 un9 (by simp) (rdS_z (i := 2) rfl))) ?_
                  | refine TO.dz 1073741823 (some 37) rfl rfl rfl rfl (Val.does (Val.b2s (l := List.replicate (48 - d.length) 0) rfl us23 ui5 un9 (by simp) (rdS_z (i := 3) rfl))) ?_
                rintro _ _ ⟨rfl, rfl⟩
                refine roK ?_
                first
                  | refine TA.tk 30 2147483647 rfl rfl rfl (Val.addL rfl rfl (by first | omega | (simp <;> omega))) ?_
                  | refine TA.tk 30 2147483647 rfl rfl rfl (Val.addS rfl rfl (by first | decide | omega)) ?_
                refine TA.tk 31 4294967295 rfl rfl rfl (Val.assign rfl) ?_
                refine TA.done (by kernel_rfl) ?_
                refine AtX.join () ?_ (Sub.cons rfl (Sub.cons rfl (Sub.nil _))) (by repeat (first | exact ro_refl | exact ro_pre | refine ro_tail ?_ | refine ro_app ?_))
                trivial
              · skip
                first
                  | refine TO.dz 1064302847 (some 37) rfl rfl rfl rfl (Val.does (Val.b2s (l := List.replicate (48 - d.length) 0) rfl us23 ui5 un9 (by simp) (rdS_z (i := 0) rfl))) ?_
                  | refine TO.dz 1064302847 (some 37) rfl rfl rfl rfl (Val.does (Val.b2s (l := List.replicate (48 - d.length) 0) rfl us23 ui5 un9 (by simp) (rdS_z (i := 1) rfl))) ?_
                  | refine TO.dz 1064302847 (some 37) rfl rfl rfl rfl (Val.does (Val.b2s (l := List.replicate (48 - d.length) 0) rfl us23 ui5 un9 (by simp) (rdS_z (i := 2) rfl))) ?_
                  | refine TO.dz 1064302847 (some 37) rfl rfl rfl rfl (Val.does (Val.b2s (l := List.replicate (48 - d.length) 0) rfl us23 ui5 un9 (by simp) (rdS_z (i := 3) rfl))) ?_
                rintro _ _ ⟨rfl, rfl⟩
                refine roK ?_
                refine TA.one 8 (by kernel_rfl) ?_
                refine TO.dz 1064303103 (some 16) rfl rfl rfl rfl (Does.callF go23 rfl (refPut_fn _ _)) ?_
                rintro _ _ ⟨rfl, rfl⟩
                refine roK ?_
                refine TA.tk 9 1064303615 rfl rfl rfl (Val.sliceL (i := 0) (j := 2) rfl un9 rfl rfl rfl rfl (by omega) (by simp)) ?_
                first
                  | refine TA.tk 10 1064304639 rfl rfl rfl (Val.addL rfl rfl (by first | omega | (simp <;> omega))) ?_
                  | refine TA.tk 10 1064304639 rfl rfl rfl (Val.addS rfl rfl (by first | decide | omega)) ?_
                first
                  | refine TA.tk 20 1065353215 rfl rfl rfl (Val.addL rfl rfl (by first | omega | (simp <;> omega))) ?_
                  | refine TA.tk 20 1065353215 rfl rfl rfl (Val.addS rfl rfl (by first | decide | omega)) ?_
                first
                  | refine TA.tk 23 1073741823 rfl rfl rfl (Val.addL rfl rfl (by first | omega | (simp <;> omega))) ?_
                  | refine TA.tk 23 1073741823 rfl rfl rfl (Val.addS rfl rfl (by first | decide | omega)) ?_
                first
                  | refine TA.tk 30 2147483647 rfl rfl rfl (Val.addL rfl rfl (by first | omega | (simp <;> omega))) ?_
                  | refine TA.tk 30 2147483647 rfl rfl rfl (Val.addS rfl rfl (by first | decide | omega)) ?_
                refine TA.tk 31 4294967295 rfl rfl rfl (Val.assign rfl) ?_
                refine TA.done (by kernel_rfl) ?_
                refine AtX.join () ?_ (Sub.cons rfl (Sub.cons rfl (Sub.nil _))) (by repeat (first | exact ro_refl | exact ro_pre | refine ro_tail ?_ | refine ro_app ?_))
                trivial
            · skip
              first
                | refine TO.dz 1063778559 (some 37) rfl rfl rfl rfl (Val.does (Val.b2s (l := List.replicate (48 - d.length) 0) rfl us23 ui5 un9 (by simp) (rdS_z (i := 0) rfl))) ?_
                | refine TO.dz 1063778559 (some 37) rfl rfl rfl rfl (Val.does (Val.b2s (l := List.replicate (48 - d.length) 0) rfl us23 ui5 un9 (by simp) (rdS_z (i := 1) rfl))) ?_
                | refine TO.dz 1063778559 (some 37) rfl rfl rfl rfl (Val.does (Val.b2s (l := List.replicate (48 - d.length) 0) rfl us23 ui5 un9 (by simp) (rdS_z (i := 2) rfl))) ?_
                | refine TO.dz 1063778559 (some 37) rfl rfl rfl rfl (Val.does (Val.b2s (l := List.replicate (48 - d.length) 0) rfl us23 ui5 un9 (by simp) (rdS_z (i := 3) rfl))) ?_
              rintro _ _ ⟨rfl, rfl⟩
              refine roK ?_
              refine TA.two 8 19 (by kernel_rfl) ?_ ?_
              · skip
                refine TO.dz 1063778815 (some 16) rfl rfl rfl rfl (Does.callF go23 rfl (refPut_fn _ _)) ?_
                rintro _ _ ⟨rfl, rfl⟩
                refine roK ?_
                refine TA.tk 9 1063779327 rfl rfl rfl (Val.sliceL (i := 0) (j := 2) rfl un9 rfl rfl rfl rfl (by omega) (by simp)) ?_
                first
                  | refine TA.tk 10 1063780351 rfl rfl rfl (Val.addL rfl rfl (by first | omega | (simp <;> omega))) ?_
                  | refine TA.tk 10 1063780351 rfl rfl rfl (Val.addS rfl rfl (by first | decide | omega)) ?_
                refine TA.one 19 (by kernel_rfl) ?_
                first
                  | refine TO.dz 1064304639 (some 27) rfl rfl rfl rfl (Val.does (Val.b2s (l := [Go.X.b8 kd, Go.X.b8 d.length]) rfl us23 ui5 un9 rfl (.some (Rd.get (i := 0) rfl rfl)))) ?_
                  | refine TO.dz 1064304639 (some 27) rfl rfl rfl rfl (Val.does (Val.b2s (l := [Go.X.b8 kd, Go.X.b8 d.length]) rfl us23 ui5 un9 rfl (.some (Rd.get (i := 1) rfl rfl)))) ?_
                  | refine TO.dz 1064304639 (some 27) rfl rfl rfl rfl (Val.does (Val.b2s (l := [Go.X.b8 kd, Go.X.b8 d.length]) rfl us23 ui5 un9 rfl (.some (Rd.get (i := 2) rfl rfl)))) ?_
                  | refine TO.dz 1064304639 (some 27) rfl rfl rfl rfl (Val.does (Val.b2s (l := [Go.X.b8 kd, Go.X.b8 d.length]) rfl us23 ui5 un9 rfl (.some (Rd.get (i := 3) rfl rfl)))) ?_
                rintro _ _ ⟨rfl, rfl⟩
                refine roK ?_
                first
                  | refine TA.tk 20 1065353215 rfl rfl rfl (Val.addL rfl rfl (by first | omega | (simp <;> omega))) ?_
                  | refine TA.tk 20 1065353215 rfl rfl rfl (Val.addS rfl rfl (by first | decide | omega)) ?_
                first
                  | refine TA.tk 23 1073741823 rfl rfl rfl (Val.addL rfl rfl (by first | omega | (simp <;> omega))) ?_
                  | refine TA.tk 23 1073741823 rfl rfl rfl (Val.addS rfl rfl (by first | decide | omega)) ?_
                first
                  | refine TA.tk 30 2147483647 rfl rfl rfl (Val.addL rfl rfl (by first | omega | (simp <;> omega))) ?_
                  | refine TA.tk 30 2147483647 rfl rfl rfl (Val.addS rfl rfl (by first | decide | omega)) ?_
                refine TA.tk 31 4294967295 rfl rfl rfl (Val.assign rfl) ?_
                refine TA.done (by kernel_rfl) ?_
                refine AtX.join () ?_ (Sub.cons rfl (Sub.cons rfl (Sub.nil _))) (by repeat (first | exact ro_refl | exact ro_pre | refine ro_tail ?_ | refine ro_app ?_))
                trivial
              · skip
                first
                  | refine TO.dz 1064302847 (some 27) rfl rfl rfl rfl (Val.does (Val.b2s (l := [Go.X.b8 kd, Go.X.b8 d.length]) rfl us23 ui5 un9 rfl (.some (Rd.get (i := 0) rfl rfl)))) ?_
                  | refine TO.dz 1064302847 (some 27) rfl rfl rfl rfl (Val.does (Val.b2s (l := [Go.X.b8 kd, Go.X.b8 d.length]) rfl us23 ui5 un9 rfl (.some (Rd.get (i := 1) rfl rfl)))) ?_
                  | refine TO.dz 1064302847 (some 27) rfl rfl rfl rfl (Val.does (Val.b2s (l := [Go.X.b8 kd, Go.X.b8 d.length]) rfl us23 ui5 un9 rfl (.some (Rd.get (i := 2) rfl rfl)))) ?_
                  | refine TO.dz 1064302847 (some 27) rfl rfl rfl rfl (Val.does (Val.b2s (l := [Go.X.b8 kd, Go.X.b8 d.length]) rfl us23 ui5 un9 rfl (.some (Rd.get (i := 3) rfl rfl)))) ?_
                rintro _ _ ⟨rfl, rfl⟩
                refine roK ?_
                refine TA.one 8 (by kernel_rfl) ?_
                refine TO.dz 1064303103 (some 16) rfl rfl rfl rfl (Does.callF go23 rfl (refPut_fn _ _)) ?_
                rintro _ _ ⟨rfl, rfl⟩
                refine roK ?_
                refine TA.tk 9 1064303615 rfl rfl rfl (Val.sliceL (i := 0) (j := 2) rfl un9 rfl rfl rfl rfl (by omega) (by simp)) ?_
                first
                  | refine TA.tk 10 1064304639 rfl rfl rfl (Val.addL rfl rfl (by first | omega | (simp <;> omega))) ?_
                  | refine TA.tk 10 1064304639 rfl rfl rfl (Val.addS rfl rfl (by first | decide | omega)) ?_
                first
                  | refine TA.tk 20 1065353215 rfl rfl rfl (Val.addL rfl rfl (by first | omega | (simp <;> omega))) ?_
                  | refine TA.tk 20 1065353215 rfl rfl rfl (Val.addS rfl rfl (by first | decide | omega)) ?_
                first
                  | refine TA.tk 23 1073741823 rfl rfl rfl (Val.addL rfl rfl (by first | omega | (simp <;> omega))) ?_
                  | refine TA.tk 23 1073741823 rfl rfl rfl (Val.addS rfl rfl (by first | decide | omega)) ?_
                first
                  | refine TA.tk 30 2147483647 rfl rfl rfl (Val.addL rfl rfl (by first | omega | (simp <;> omega))) ?_
                  | refine TA.tk 30 2147483647 rfl rfl rfl (Val.addS rfl rfl (by first | decide | omega)) ?_
                refine TA.tk 31 4294967295 rfl rfl rfl (Val.assign rfl) ?_
                refine TA.done (by kernel_rfl) ?_
                refine AtX.join () ?_ (Sub.cons rfl (Sub.cons rfl (Sub.nil _))) (by repeat (first | exact ro_refl | exact ro_pre | refine ro_tail ?_ | refine ro_app ?_))
                trivial
          · skip
            first
              | refine TO.dz 1063516415 (some 37) rfl rfl rfl rfl (Val.does (Val.b2s (l := List.replicate (48 - d.length) 0) rfl us23 ui5 un9 (by simp) (rdS_z (i := 0) rfl))) ?_
              | refine TO.dz 1063516415 (some 37) rfl rfl rfl rfl (Val.does (Val.b2s (l := List.replicate (48 - d.length) 0) rfl us23 ui5 un9 (by simp) (rdS_z (i := 1) rfl))) ?_
              | refine TO.dz 1063516415 (some 37) rfl rfl rfl rfl (Val.does (Val.b2s (l := List.replicate (48 - d.length) 0) rfl us23 ui5 un9 (by simp) (rdS_z (i := 2) rfl))) ?_
              | refine TO.dz 1063516415 (some 37) rfl rfl rfl rfl (Val.does (Val.b2s (l := List.replicate (48 - d.length) 0) rfl us23 ui5 un9 (by simp) (rdS_z (i := 3) rfl))) ?_
            rintro _ _ ⟨rfl, rfl⟩
            refine roK ?_
            refine TA.two 8 18 (by kernel_rfl) ?_ ?_
            · skip
              refine TO.dz 1063516671 (some 16) rfl rfl rfl rfl (Does.callF go23 rfl (refPut_fn _ _)) ?_
              rintro _ _ ⟨rfl, rfl⟩
              refine roK ?_
              refine TA.tk 9 1063517183 rfl rfl rfl (Val.sliceL (i := 0) (j := 2) rfl un9 rfl rfl rfl rfl (by omega) (by simp)) ?_
              first
                | refine TA.tk 10 1063518207 rfl rfl rfl (Val.addL rfl rfl (by first | omega | (simp <;> omega))) ?_
                | refine TA.tk 10 1063518207 rfl rfl rfl (Val.addS rfl rfl (by first | decide | omega)) ?_
              refine TA.one 18 (by kernel_rfl) ?_
              refine TO.dz 1063780351 (some 26) rfl rfl rfl rfl (Does.buildSlice sl23 sz5 ze5 (by decide) (by decide) rfl rfl rfl) ?_
              rintro _ _ ⟨b28, rfl, rfl⟩
              refine roK ?_
              refine TA.one 19 (by kernel_rfl) ?_
              first
                | refine TO.dz 1064304639 (some 27) rfl rfl rfl rfl (Val.does (Val.b2s (l := [Go.X.b8 kd, Go.X.b8 d.length]) rfl us23 ui5 un9 rfl (.some (Rd.get (i := 0) rfl rfl)))) ?_
                | refine TO.dz 1064304639 (some 27) rfl rfl rfl rfl (Val.does (Val.b2s (l := [Go.X.b8 kd, Go.X.b8 d.length]) rfl us23 ui5 un9 rfl (.some (Rd.get (i := 1) rfl rfl)))) ?_
                | refine TO.dz 1064304639 (some 27) rfl rfl rfl rfl (Val.does (Val.b2s (l := [Go.X.b8 kd, Go.X.b8 d.length]) rfl us23 ui5 un9 rfl (.some (Rd.get (i := 2) rfl rfl)))) ?_
                | refine TO.dz 1064304639 (some 27) rfl rfl rfl rfl (Val.does (Val.b2s (l := [Go.X.b8 kd, Go.X.b8 d.length]) rfl us23 ui5 un9 rfl (.some (Rd.get (i := 3) rfl rfl)))) ?_
              rintro _ _ ⟨rfl, rfl⟩
              refine roK ?_
              first
                | refine TA.tk 20 1065353215 rfl rfl rfl (Val.addL rfl rfl (by first | omega | (simp <;> omega))) ?_
                | refine TA.tk 20 1065353215 rfl rfl rfl (Val.addS rfl rfl (by first | decide | omega)) ?_
              first
                | refine TA.tk 23 1073741823 rfl rfl rfl (Val.addL rfl rfl (by first | omega | (simp <;> omega))) ?_
                | refine TA.tk 23 1073741823 rfl rfl rfl (Val.addS rfl rfl (by first | decide | omega)) ?_
              first
                | refine TA.tk 30 2147483647 rfl rfl rfl (Val.addL rfl rfl (by first | omega | (simp <;> omega))) ?_
                | refine TA.tk 30 2147483647 rfl rfl rfl (Val.addS rfl rfl (by first | decide | omega)) ?_
              refine TA.tk 31 4294967295 rfl rfl rfl (Val.assign rfl) ?_
              refine TA.done (by kernel_rfl) ?_
              refine AtX.join () ?_ (Sub.cons rfl (Sub.cons rfl (Sub.nil _))) (by repeat (first | exact ro_refl | exact ro_pre | refine ro_tail ?_ | refine ro_app ?_))
              trivial
            · skip
              refine TO.dz 1063778559 (some 26) rfl rfl rfl rfl (Does.buildSlice sl23 sz5 ze5 (by decide) (by decide) rfl rfl rfl) ?_
              rintro _ _ ⟨b29, rfl, rfl⟩
              refine roK ?_
              refine TA.two 8 19 (by kernel_rfl) ?_ ?_
              · skip
                refine TO.dz 1063778815 (some 16) rfl rfl rfl rfl (Does.callF go23 rfl (refPut_fn _ _)) ?_
                rintro _ _ ⟨rfl, rfl⟩
                refine roK ?_
                refine TA.tk 9 1063779327 rfl rfl rfl (Val.sliceL (i := 0) (j := 2) rfl un9 rfl rfl rfl rfl (by omega) (by simp)) ?_
                first
                  | refine TA.tk 10 1063780351 rfl rfl rfl (Val.addL rfl rfl (by first | omega | (simp <;> omega))) ?_
                  | refine TA.tk 10 1063780351 rfl rfl rfl (Val.addS rfl rfl (by first | decide | omega)) ?_
                refine TA.one 19 (by kernel_rfl) ?_
                first
                  | refine TO.dz 1064304639 (some 27) rfl rfl rfl rfl (Val.does (Val.b2s (l := [Go.X.b8 kd, Go.X.b8 d.length]) rfl us23 ui5 un9 rfl (.some (Rd.get (i := 0) rfl rfl)))) ?_
                  | refine TO.dz 1064304639 (some 27) rfl rfl rfl rfl (Val.does (Val.b2s (l := [Go.X.b8 kd, Go.X.b8 d.length]) rfl us23 ui5 un9 rfl (.some (Rd.get (i := 1) rfl rfl)))) ?_
                  | refine TO.dz 1064304639 (some 27) rfl rfl rfl rfl (Val.does (Val.b2s (l := [Go.X.b8 kd, Go.X.b8 d.length]) rfl us23 ui5 un9 rfl (.some (Rd.get (i := 2) rfl rfl)))) ?_
                  | refine TO.dz 1064304639 (some 27) rfl rfl rfl rfl (Val.does (Val.b2s (l := [Go.X.b8 kd, Go.X.b8 d.length]) rfl us23 ui5 un9 rfl (.some (Rd.get (i := 3) rfl rfl)))) ?_
                rintro _ _ ⟨rfl, rfl⟩
                refine roK ?_
                first
                  | refine TA.tk 20 1065353215 rfl rfl rfl (Val.addL rfl rfl (by first | omega | (simp <;> omega))) ?_
                  | refine TA.tk 20 1065353215 rfl rfl rfl (Val.addS rfl rfl (by first | decide | omega)) ?_
                first
                  | refine TA.tk 23 1073741823 rfl rfl rfl (Val.addL rfl rfl (by first | omega | (simp <;> omega))) ?_
                  | refine TA.tk 23 1073741823 rfl rfl rfl (Val.addS rfl rfl (by first | decide | omega)) ?_
                first
                  | refine TA.tk 30 2147483647 rfl rfl rfl (Val.addL rfl rfl (by first | omega | (simp <;> omega))) ?_
                  | refine TA.tk 30 2147483647 rfl rfl rfl (Val.addS rfl rfl (by first | decide | omega)) ?_
                refine TA.tk 31 4294967295 rfl rfl rfl (Val.assign rfl) ?_
                refine TA.done (by kernel_rfl) ?_
                refine AtX.join () ?_ (Sub.cons rfl (Sub.cons rfl (Sub.nil _))) (by repeat (first | exact ro_refl | exact ro_pre | refine ro_tail ?_ | refine ro_app ?_))
                trivial
              · skip
                first
                  | refine TO.dz 1064302847 (some 27) rfl rfl rfl rfl (Val.does (Val.b2s (l := [Go.X.b8 kd, Go.X.b8 d.length]) rfl us23 ui5 un9 rfl (.some (Rd.get (i := 0) rfl rfl)))) ?_
                  | refine TO.dz 1064302847 (some 27) rfl rfl rfl rfl (Val.does (Val.b2s (l := [Go.X.b8 kd, Go.X.b8 d.length]) rfl us23 ui5 un9 rfl (.some (Rd.get (i := 1) rfl rfl)))) ?_
                  | refine TO.dz 1064302847 (some 27) rfl rfl rfl rfl (Val.does (Val.b2s (l := [Go.X.b8 kd, Go.X.b8 d.length]) rfl us23 ui5 un9 rfl (.some (Rd.get (i := 2) rfl rfl)))) ?_
                  | refine TO.dz 1064302847 (some 27) rfl rfl rfl rfl (Val.does (Val.b2s (l := [Go.X.b8 kd, Go.X.b8 d.length]) rfl us23 ui5 un9 rfl (.some (Rd.get (i := 3) rfl rfl)))) ?_
                rintro _ _ ⟨rfl, rfl⟩
                refine roK ?_
                refine TA.one 8 (by kernel_rfl) ?_
                refine TO.dz 1064303103 (some 16) rfl rfl rfl rfl (Does.callF go23 rfl (refPut_fn _ _)) ?_
                rintro _ _ ⟨rfl, rfl⟩
                refine roK ?_
                refine TA.tk 9 1064303615 rfl rfl rfl (Val.sliceL (i := 0) (j := 2) rfl un9 rfl rfl rfl rfl (by omega) (by simp)) ?_
                first
                  | refine TA.tk 10 1064304639 rfl rfl rfl (Val.addL rfl rfl (by first | omega | (simp <;> omega))) ?_
                  | refine TA.tk 10 1064304639 rfl rfl rfl (Val.addS rfl rfl (by first | decide | omega)) ?_
                first
                  | refine TA.tk 20 1065353215 rfl rfl rfl (Val.addL rfl rfl (by first | omega | (simp <;> omega))) ?_
                  | refine TA.tk 20 1065353215 rfl rfl rfl (Val.addS rfl rfl (by first | decide | omega)) ?_
                first
                  | refine TA.tk 23 1073741823 rfl rfl rfl (Val.addL rfl rfl (by first | omega | (simp <;> omega))) ?_
                  | refine TA.tk 23 1073741823 rfl rfl rfl (Val.addS rfl rfl (by first | decide | omega)) ?_
                first
                  | refine TA.tk 30 2147483647 rfl rfl rfl (Val.addL rfl rfl (by first | omega | (simp <;> omega))) ?_
                  | refine TA.tk 30 2147483647 rfl rfl rfl (Val.addS rfl rfl (by first | decide | omega)) ?_
                refine TA.tk 31 4294967295 rfl rfl rfl (Val.assign rfl) ?_
                refine TA.done (by kernel_rfl) ?_
                refine AtX.join () ?_ (Sub.cons rfl (Sub.cons rfl (Sub.nil _))) (by repeat (first | exact ro_refl | exact ro_pre | refine ro_tail ?_ | refine ro_app ?_))
                trivial
      · skip
        refine TO.dz 258472167 (some 26) rfl rfl rfl rfl (Does.buildSlice sl23 sz5 ze5 (by decide) (by decide) rfl rfl rfl) ?_
        rintro _ _ ⟨b32, rfl, rfl⟩
        refine roK ?_
        refine TA.three 3 19 28 (by kernel_rfl) ?_ ?_ ?_
        · skip
          refine TO.dz 258472175 (some 11) rfl rfl rfl rfl (Does.callF go23 rfl (refPut_fn _ _)) ?_
          rintro _ _ ⟨rfl, rfl⟩
          refine roK ?_
          refine TA.tk 4 258472191 rfl rfl rfl (Val.sliceL (i := 0) (j := 4) rfl un9 rfl rfl rfl rfl (by omega) (by simp)) ?_
          refine TA.three 8 19 28 (by kernel_rfl) ?_ ?_ ?_
          · skip
            refine TO.dz 258472447 (some 16) rfl rfl rfl rfl (Does.callF go23 rfl (refPut_fn _ _)) ?_
            rintro _ _ ⟨rfl, rfl⟩
            refine roK ?_
            refine TA.tk 9 258472959 rfl rfl rfl (Val.sliceL (i := 0) (j := 2) rfl un9 rfl rfl rfl rfl (by omega) (by simp)) ?_
            first
              | refine TA.tk 10 258473983 rfl rfl rfl (Val.addL rfl rfl (by first | omega | (simp <;> omega))) ?_
              | refine TA.tk 10 258473983 rfl rfl rfl (Val.addS rfl rfl (by first | decide | omega)) ?_
            refine TA.two 19 28 (by kernel_rfl) ?_ ?_
            · skip
              first
                | refine TO.dz 258998271 (some 27) rfl rfl rfl rfl (Val.does (Val.b2s (l := [Go.X.b8 kd, Go.X.b8 d.length]) rfl us23 ui5 un9 rfl (.some (Rd.get (i := 0) rfl rfl)))) ?_
                | refine TO.dz 258998271 (some 27) rfl rfl rfl rfl (Val.does (Val.b2s (l := [Go.X.b8 kd, Go.X.b8 d.length]) rfl us23 ui5 un9 rfl (.some (Rd.get (i := 1) rfl rfl)))) ?_
                | refine TO.dz 258998271 (some 27) rfl rfl rfl rfl (Val.does (Val.b2s (l := [Go.X.b8 kd, Go.X.b8 d.length]) rfl us23 ui5 un9 rfl (.some (Rd.get (i := 2) rfl rfl)))) ?_
                | refine TO.dz 258998271 (some 27) rfl rfl rfl rfl (Val.does (Val.b2s (l := [Go.X.b8 kd, Go.X.b8 d.length]) rfl us23 ui5 un9 rfl (.some (Rd.get (i := 3) rfl rfl)))) ?_
              rintro _ _ ⟨rfl, rfl⟩
              refine roK ?_
              first
                | refine TA.tk 20 260046847 rfl rfl rfl (Val.addL rfl rfl (by first | omega | (simp <;> omega))) ?_
                | refine TA.tk 20 260046847 rfl rfl rfl (Val.addS rfl rfl (by first | decide | omega)) ?_
              first
                | refine TA.tk 23 268435455 rfl rfl rfl (Val.addL rfl rfl (by first | omega | (simp <;> omega))) ?_
                | refine TA.tk 23 268435455 rfl rfl rfl (Val.addS rfl rfl (by first | decide | omega)) ?_
              refine TA.one 28 (by kernel_rfl) ?_
              refine TO.dz 536870911 (some 36) rfl rfl rfl rfl (Does.makeSlice (n := 48 - d.length) (c := 48 - d.length) rfl rfl sl23 sz5 by5 ze5 rfl (by omega) (by omega) (by omega) (by omega) (by omega)) ?_
              rintro _ _ ⟨bz, rfl, rfl⟩
              refine roK ?_
              refine TA.one 29 (by kernel_rfl) ?_
              first
                | refine TO.dz 1073741823 (some 37) rfl rfl rfl rfl (Val.does (Val.b2s (l := List.replicate (48 - d.length) 0) rfl us23 ui5 un9 (by simp) (rdS_z (i := 0) rfl))) ?_
                | refine TO.dz 1073741823 (some 37) rfl rfl rfl rfl (Val.does (Val.b2s (l := List.replicate (48 - d.length) 0) rfl us23 ui5 un9 (by simp) (rdS_z (i := 1) rfl))) ?_
                | refine TO.dz 1073741823 (some 37) rfl rfl rfl rfl (Val.does (Val.b2s (l := List.replicate (48 - d.length) 0) rfl us23 ui5 un9 (by simp) (rdS_z (i := 2) rfl))) ?_
                | refine TO.dz 1073741823 (some 37) rfl rfl rfl rfl (Val.does (Val.b2s (l := List.replicate (48 - d.length) 0) rfl us23 ui5 un9 (by simp) (rdS_z (i := 3) rfl))) ?_
              rintro _ _ ⟨rfl, rfl⟩
              refine roK ?_
              first
                | refine TA.tk 30 2147483647 rfl rfl rfl (Val.addL rfl rfl (by first | omega | (simp <;> omega))) ?_
                | refine TA.tk 30 2147483647 rfl rfl rfl (Val.addS rfl rfl (by first | decide | omega)) ?_
              refine TA.tk 31 4294967295 rfl rfl rfl (Val.assign rfl) ?_
              refine TA.done (by kernel_rfl) ?_
              refine AtX.join () ?_ (Sub.cons rfl (Sub.cons rfl (Sub.nil _))) (by repeat (first | exact ro_refl | exact ro_pre | refine ro_tail ?_ | refine ro_app ?_))
              trivial
            · skip
              refine TO.dz 526909439 (some 36) rfl rfl rfl rfl (Does.makeSlice (n := 48 - d.length) (c := 48 - d.length) rfl rfl sl23 sz5 by5 ze5 rfl (by omega) (by omega) (by omega) (by omega) (by omega)) ?_
              rintro _ _ ⟨bz, rfl, rfl⟩
              refine roK ?_
              refine TA.two 19 29 (by kernel_rfl) ?_ ?_
              · skip
                first
                  | refine TO.dz 527433727 (some 27) rfl rfl rfl rfl (Val.does (Val.b2s (l := [Go.X.b8 kd, Go.X.b8 d.length]) rfl us23 ui5 un9 rfl (.some (Rd.get (i := 0) rfl rfl)))) ?_
                  | refine TO.dz 527433727 (some 27) rfl rfl rfl rfl (Val.does (Val.b2s (l := [Go.X.b8 kd, Go.X.b8 d.length]) rfl us23 ui5 un9 rfl (.some (Rd.get (i := 1) rfl rfl)))) ?_
                  | refine TO.dz 527433727 (some 27) rfl rfl rfl rfl (Val.does (Val.b2s (l := [Go.X.b8 kd, Go.X.b8 d.length]) rfl us23 ui5 un9 rfl (.some (Rd.get (i := 2) rfl rfl)))) ?_
                  | refine TO.dz 527433727 (some 27) rfl rfl rfl rfl (Val.does (Val.b2s (l := [Go.X.b8 kd, Go.X.b8 d.length]) rfl us23 ui5 un9 rfl (.some (Rd.get (i := 3) rfl rfl)))) ?_
                rintro _ _ ⟨rfl, rfl⟩
                refine roK ?_
                first
                  | refine TA.tk 20 528482303 rfl rfl rfl (Val.addL rfl rfl (by first | omega | (simp <;> omega))) ?_
                  | refine TA.tk 20 528482303 rfl rfl rfl (Val.addS rfl rfl (by first | decide | omega)) ?_
                first
                  | refine TA.tk 23 536870911 rfl rfl rfl (Val.addL rfl rfl (by first | omega | (simp <;> omega))) ?_
                  | refine TA.tk 23 536870911 rfl rfl rfl (Val.addS rfl rfl (by first | decide | omega)) ?_
                refine TA.one 29 (by kernel_rfl) ?_
                first
                  | refine TO.dz 1073741823 (some 37) rfl rfl rfl rfl (Val.does (Val.b2s (l := List.replicate (48 - d.length) 0) rfl us23 ui5 un9 (by simp) (rdS_z (i := 0) rfl))) ?_
                  | refine TO.dz 1073741823 (some 37) rfl rfl rfl rfl (Val.does (Val.b2s (l := List.replicate (48 - d.length) 0) rfl us23 ui5 un9 (by simp) (rdS_z (i := 1) rfl))) ?_
                  | refine TO.dz 1073741823 (some 37) rfl rfl rfl rfl (Val.does (Val.b2s (l := List.replicate (48 - d.length) 0) rfl us23 ui5 un9 (by simp) (rdS_z (i := 2) rfl))) ?_
                  | refine TO.dz 1073741823 (some 37) rfl rfl rfl rfl (Val.does (Val.b2s (l := List.replicate (48 - d.length) 0) rfl us23 ui5 un9 (by simp) (rdS_z (i := 3) rfl))) ?_
                rintro _ _ ⟨rfl, rfl⟩
                refine roK ?_
                first
                  | refine TA.tk 30 2147483647 rfl rfl rfl (Val.addL rfl rfl (by first | omega | (simp <;> omega))) ?_
                  | refine TA.tk 30 2147483647 rfl rfl rfl (Val.addS rfl rfl (by first | decide | omega)) ?_
                refine TA.tk 31 4294967295 rfl rfl rfl (Val.assign rfl) ?_
                refine TA.done (by kernel_rfl) ?_
                refine AtX.join () ?_ (Sub.cons rfl (Sub.cons rfl (Sub.nil _))) (by repeat (first | exact ro_refl | exact ro_pre | refine ro_tail ?_ | refine ro_app ?_))
                trivial
              · skip
                first
                  | refine TO.dz 1063780351 (some 37) rfl rfl rfl rfl (Val.does (Val.b2s (l := List.replicate (48 - d.length) 0) rfl us23 ui5 un9 (by simp) (rdS_z (i := 0) rfl))) ?_
                  | refine TO.dz 1063780351 (some 37) rfl rfl rfl rfl (Val.does (Val.b2s (l := List.replicate (48 - d.length) 0) rfl us23 ui5 un9 (by simp) (rdS_z (i := 1) rfl))) ?_
                  | refine TO.dz 1063780351 (some 37) rfl rfl rfl rfl (Val.does (Val.b2s (l := List.replicate (48 - d.length) 0) rfl us23 ui5 un9 (by simp) (rdS_z (i := 2) rfl))) ?_
                  | refine TO.dz 1063780351 (some 37) rfl rfl rfl rfl (Val.does (Val.b2s (l := List.replicate (48 - d.length) 0) rfl us23 ui5 un9 (by simp) (rdS_z (i := 3) rfl))) ?_
                rintro _ _ ⟨rfl, rfl⟩
                refine roK ?_
                refine TA.one 19 (by kernel_rfl) ?_
                first
                  | refine TO.dz 1064304639 (some 27) rfl rfl rfl rfl (Val.does (Val.b2s (l := [Go.X.b8 kd, Go.X.b8 d.length]) rfl us23 ui5 un9 rfl (.some (Rd.get (i := 0) rfl rfl)))) ?_
                  | refine TO.dz 1064304639 (some 27) rfl rfl rfl rfl (Val.does (Val.b2s (l := [Go.X.b8 kd, Go.X.b8 d.length]) rfl us23 ui5 un9 rfl (.some (Rd.get (i := 1) rfl rfl)))) ?_
                  | refine TO.dz 1064304639 (some 27) rfl rfl rfl rfl (Val.does (Val.b2s (l := [Go.X.b8 kd, Go.X.b8 d.length]) rfl us23 ui5 un9 rfl (.some (Rd.get (i := 2) rfl rfl)))) ?_
                  | refine TO.dz 1064304639 (some 27) rfl rfl rfl rfl (Val.does (Val.b2s (l := [Go.X.b8 kd, Go.X.b8 d.length]) rfl us23 ui5 un9 rfl (.some (Rd.get (i := 3) rfl rfl)))) ?_
                rintro _ _ ⟨rfl, rfl⟩
                refine roK ?_
                first
                  | refine TA.tk 20 1065353215 rfl rfl rfl (Val.addL rfl rfl (by first | omega | (simp <;> omega))) ?_
                  | refine TA.tk 20 1065353215 rfl rfl rfl (Val.addS rfl rfl (by first | decide | omega)) ?_
                first
                  | refine TA.tk 23 1073741823 rfl rfl rfl (Val.addL rfl rfl (by first | omega | (simp <;> omega))) ?_
                  | refine TA.tk 23 1073741823 rfl rfl rfl (Val.addS rfl rfl (by first | decide | omega)) ?_
                first
                  | refine TA.tk 30 2147483647 rfl rfl rfl (Val.addL rfl rfl (by first | omega | (simp <;> omega))) ?_
                  | refine TA.tk 30 2147483647 rfl rfl rfl (Val.addS rfl rfl (by first | decide | omega)) ?_
                refine TA.tk 31 4294967295 rfl rfl rfl (Val.assign rfl) ?_
                refine TA.done (by kernel_rfl) ?_
                refine AtX.join () ?_ (Sub.cons rfl (Sub.cons rfl (Sub.nil _))) (by repeat (first | exact ro_refl | exact ro_pre | refine ro_tail ?_ | refine ro_app ?_))
                trivial
          · skip
            first
              | refine TO.dz 258996479 (some 27) rfl rfl rfl rfl (Val.does (Val.b2s (l := [Go.X.b8 kd, Go.X.b8 d.length]) rfl us23 ui5 un9 rfl (.some (Rd.get (i := 0) rfl rfl)))) ?_
              | refine TO.dz 258996479 (some 27) rfl rfl rfl rfl (Val.does (Val.b2s (l := [Go.X.b8 kd, Go.X.b8 d.length]) rfl us23 ui5 un9 rfl (.some (Rd.get (i := 1) rfl rfl)))) ?_
              | refine TO.dz 258996479 (some 27) rfl rfl rfl rfl (Val.does (Val.b2s (l := [Go.X.b8 kd, Go.X.b8 d.length]) rfl us23 ui5 un9 rfl (.some (Rd.get (i := 2) rfl rfl)))) ?_
              | refine TO.dz 258996479 (some 27) rfl rfl rfl rfl (Val.does (Val.b2s (l := [Go.X.b8 kd, Go.X.b8 d.length]) rfl us23 ui5 un9 rfl (.some (Rd.get (i := 3) rfl rfl)))) ?_
            rintro _ _ ⟨rfl, rfl⟩
            refine roK ?_
            refine TA.two 8 28 (by kernel_rfl) ?_ ?_
            · skip
              refine TO.dz 258996735 (some 16) rfl rfl rfl rfl (Does.callF go23 rfl (refPut_fn _ _)) ?_
              rintro _ _ ⟨rfl, rfl⟩
              refine roK ?_
              refine TA.tk 9 258997247 rfl rfl rfl (Val.sliceL (i := 0) (j := 2) rfl un9 rfl rfl rfl rfl (by omega) (by simp)) ?_
              first
                | refine TA.tk 10 258998271 rfl rfl rfl (Val.addL rfl rfl (by first | omega | (simp <;> omega))) ?_
                | refine TA.tk 10 258998271 rfl rfl rfl (Val.addS rfl rfl (by first | decide | omega)) ?_
              first
                | refine TA.tk 20 260046847 rfl rfl rfl (Val.addL rfl rfl (by first | omega | (simp <;> omega))) ?_
                | refine TA.tk 20 260046847 rfl rfl rfl (Val.addS rfl rfl (by first | decide | omega)) ?_
              first
                | refine TA.tk 23 268435455 rfl rfl rfl (Val.addL rfl rfl (by first | omega | (simp <;> omega))) ?_
                | refine TA.tk 23 268435455 rfl rfl rfl (Val.addS rfl rfl (by first | decide | omega)) ?_
              refine TA.one 28 (by kernel_rfl) ?_
              refine TO.dz 536870911 (some 36) rfl rfl rfl rfl (Does.makeSlice (n := 48 - d.length) (c := 48 - d.length) rfl rfl sl23 sz5 by5 ze5 rfl (by omega) (by omega) (by omega) (by omega) (by omega)) ?_
              rintro _ _ ⟨bz, rfl, rfl⟩
              refine roK ?_
              refine TA.one 29 (by kernel_rfl) ?_
              first
                | refine TO.dz 1073741823 (some 37) rfl rfl rfl rfl (Val.does (Val.b2s (l := List.replicate (48 - d.length) 0) rfl us23 ui5 un9 (by simp) (rdS_z (i := 0) rfl))) ?_
                | refine TO.dz 1073741823 (some 37) rfl rfl rfl rfl (Val.does (Val.b2s (l := List.replicate (48 - d.length) 0) rfl us23 ui5 un9 (by simp) (rdS_z (i := 1) rfl))) ?_
                | refine TO.dz 1073741823 (some 37) rfl rfl rfl rfl (Val.does (Val.b2s (l := List.replicate (48 - d.length) 0) rfl us23 ui5 un9 (by simp) (rdS_z (i := 2) rfl))) ?_
                | refine TO.dz 1073741823 (some 37) rfl rfl rfl rfl (Val.does (Val.b2s (l := List.replicate (48 - d.length) 0) rfl us23 ui5 un9 (by simp) (rdS_z (i := 3) rfl))) ?_
              rintro _ _ ⟨rfl, rfl⟩
              refine roK ?_
              first
                | refine TA.tk 30 2147483647 rfl rfl rfl (Val.addL rfl rfl (by first | omega | (simp <;> omega))) ?_
                | refine TA.tk 30 2147483647 rfl rfl rfl (Val.addS rfl rfl (by first | decide | omega)) ?_
              refine TA.tk 31 4294967295 rfl rfl rfl (Val.assign rfl) ?_
              refine TA.done (by kernel_rfl) ?_
              refine AtX.join () ?_ (Sub.cons rfl (Sub.cons rfl (Sub.nil _))) (by repeat (first | exact ro_refl | exact ro_pre | refine ro_tail ?_ | refine ro_app ?_))
              trivial
            · skip
              refine TO.dz 527431935 (some 36) rfl rfl rfl rfl (Does.makeSlice (n := 48 - d.length) (c := 48 - d.length) rfl rfl sl23 sz5 by5 ze5 rfl (by omega) (by omega) (by omega) (by omega) (by omega)) ?_
              rintro _ _ ⟨bz, rfl, rfl⟩
              refine roK ?_
              refine TA.two 8 29 (by kernel_rfl) ?_ ?_
              · skip
                refine TO.dz 527432191 (some 16) rfl rfl rfl rfl (Does.callF go23 rfl (refPut_fn _ _)) ?_
                rintro _ _ ⟨rfl, rfl⟩
                refine roK ?_
                refine TA.tk 9 527432703 rfl rfl rfl (Val.sliceL (i := 0) (j := 2) rfl un9 rfl rfl rfl rfl (by omega) (by simp)) ?_
                first
                  | refine TA.tk 10 527433727 rfl rfl rfl (Val.addL rfl rfl (by first | omega | (simp <;> omega))) ?_
                  | refine TA.tk 10 527433727 rfl rfl rfl (Val.addS rfl rfl (by first | decide | omega)) ?_
                first
                  | refine TA.tk 20 528482303 rfl rfl rfl (Val.addL rfl rfl (by first | omega | (simp <;> omega))) ?_
                  | refine TA.tk 20 528482303 rfl rfl rfl (Val.addS rfl rfl (by first | decide | omega)) ?_
                first
                  | refine TA.tk 23 536870911 rfl rfl rfl (Val.addL rfl rfl (by first | omega | (simp <;> omega))) ?_
                  | refine TA.tk 23 536870911 rfl rfl rfl (Val.addS rfl rfl (by first | decide | omega)) ?_
                refine TA.one 29 (by kernel_rfl) ?_
                first
                  | refine TO.dz 1073741823 (some 37) rfl rfl rfl rfl (Val.does (Val.b2s (l := List.replicate (48 - d.length) 0) rfl us23 ui5 un9 (by simp) (rdS_z (i := 0) rfl))) ?_
                  | refine TO.dz 1073741823 (some 37) rfl rfl rfl rfl (Val.does (Val.b2s (l := List.replicate (48 - d.length) 0) rfl us23 ui5 un9 (by simp) (rdS_z (i := 1) rfl))) ?_
                  | refine TO.dz 1073741823 (some 37) rfl rfl rfl rfl (Val.does (Val.b2s (l := List.replicate (48 - d.length) 0) rfl us23 ui5 un9 (by simp) (rdS_z (i := 2) rfl))) ?_
                  | refine TO.dz 1073741823 (some 37) rfl rfl rfl rfl (Val.does (Val.b2s (l := List.replicate (48 - d.length) 0) rfl us23 ui5 un9 (by simp) (rdS_z (i := 3) rfl))) ?_
                rintro _ _ ⟨rfl, rfl⟩
                refine roK ?_
                first
                  | refine TA.tk 30 2147483647 rfl rfl rfl (Val.addL rfl rfl (by first | omega | (simp <;> omega))) ?_
                  | refine TA.tk 30 2147483647 rfl rfl rfl (Val.addS rfl rfl (by first | decide | omega)) ?_
                refine TA.tk 31 4294967295 rfl rfl rfl (Val.assign rfl) ?_
                refine TA.done (by kernel_rfl) ?_
                refine AtX.join () ?_ (Sub.cons rfl (Sub.cons rfl (Sub.nil _))) (by repeat (first | exact ro_refl | exact ro_pre | refine ro_tail ?_ | refine ro_app ?_))
                trivial
              · skip
                first
                  | refine TO.dz 1064302847 (some 37) rfl rfl rfl rfl (Val.does (Val.b2s (l := List.replicate (48 - d.length) 0) rfl us23 ui5 un9 (by simp) (rdS_z (i := 0) rfl))) ?_
                  | refine TO.dz 1064302847 (some 37) rfl rfl rfl rfl (Val.does (Val.b2s (l := List.replicate (48 - d.length) 0) rfl us23 ui5 un9 (by simp) (rdS_z (i := 1) rfl))) ?_
                  | refine TO.dz 1064302847 (some 37) rfl rfl rfl rfl (Val.does (Val.b2s (l := List.replicate (48 - d.length) 0) rfl us23 ui5 un9 (by simp) (rdS_z (i := 2) rfl))) ?_
                  | refine TO.dz 1064302847 (some 37) rfl rfl rfl rfl (Val.does (Val.b2s (l := List.replicate (48 - d.length) 0) rfl us23 ui5 un9 (by simp) (rdS_z (i := 3) rfl))) ?_
                rintro _ _ ⟨rfl, rfl⟩
                refine roK ?_
                refine TA.one 8 (by kernel_rfl) ?_
                refine TO.dz 1064303103 (some 16) rfl rfl rfl rfl (Does.callF go23 rfl (refPut_fn _ _)) ?_
                rintro _ _ ⟨rfl, rfl⟩
                refine roK ?_
                refine TA.tk 9 1064303615 rfl rfl rfl (Val.sliceL (i := 0) (j := 2) rfl un9 rfl rfl rfl rfl (by omega) (by simp)) ?_
                first
                  | refine TA.tk 10 1064304639 rfl rfl rfl (Val.addL rfl rfl (by first | omega | (simp <;> omega))) ?_
                  | refine TA.tk 10 1064304639 rfl rfl rfl (Val.addS rfl rfl (by first | decide | omega)) ?_
                first
                  | refine TA.tk 20 1065353215 rfl rfl rfl (Val.addL rfl rfl (by first | omega | (simp <;> omega))) ?_
                  | refine TA.tk 20 1065353215 rfl rfl rfl (Val.addS rfl rfl (by first | decide | omega)) ?_
                first
                  | refine TA.tk 23 1073741823 rfl rfl rfl (Val.addL rfl rfl (by first | omega | (simp <;> omega))) ?_
                  | refine TA.tk 23 1073741823 rfl rfl rfl (Val.addS rfl rfl (by first | decide | omega)) ?_
                first
                  | refine TA.tk 30 2147483647 rfl rfl rfl (Val.addL rfl rfl (by first | omega | (simp <;> omega))) ?_
                  | refine TA.tk 30 2147483647 rfl rfl rfl (Val.addS rfl rfl (by first | decide | omega)) ?_
                refine TA.tk 31 4294967295 rfl rfl rfl (Val.assign rfl) ?_
                refine TA.done (by kernel_rfl) ?_
                refine AtX.join () ?_ (Sub.cons rfl (Sub.cons rfl (Sub.nil _))) (by repeat (first | exact ro_refl | exact ro_pre | refine ro_tail ?_ | refine ro_app ?_))
                trivial
          · skip
            refine TO.dz 526907647 (some 36) rfl rfl rfl rfl (Does.makeSlice (n := 48 - d.length) (c := 48 - d.length) rfl rfl sl23 sz5 by5 ze5 rfl (by omega) (by omega) (by omega) (by omega) (by omega)) ?_
            rintro _ _ ⟨bz, rfl, rfl⟩
            refine roK ?_
            refine TA.three 8 19 29 (by kernel_rfl) ?_ ?_ ?_
            · skip
              refine TO.dz 526907903 (some 16) rfl rfl rfl rfl (Does.callF go23 rfl (refPut_fn _ _)) ?_
              rintro _ _ ⟨rfl, rfl⟩
              refine roK ?_
              refine TA.tk 9 526908415 rfl rfl rfl (Val.sliceL (i := 0) (j := 2) rfl un9 rfl rfl rfl rfl (by omega) (by simp)) ?_
              first
                | refine TA.tk 10 526909439 rfl rfl rfl (Val.addL rfl rfl (by first | omega | (simp <;> omega))) ?_
                | refine TA.tk 10 526909439 rfl rfl rfl (Val.addS rfl rfl (by first | decide | omega)) ?_
              refine TA.two 19 29 (by kernel_rfl) ?_ ?_
              · skip
                first
                  | refine TO.dz 527433727 (some 27) rfl rfl rfl rfl (Val.does (Val.b2s (l := [Go.X.b8 kd, Go.X.b8 d.length]) rfl us23 ui5 un9 rfl (.some (Rd.get (i := 0) rfl rfl)))) ?_
                  | refine TO.dz 527433727 (some 27) rfl rfl rfl rfl (Val.does (Val.b2s (l := [Go.X.b8 kd, Go.X.b8 d.length]) rfl us23 ui5 un9 rfl (.some (Rd.get (i := 1) rfl rfl)))) ?_
                  | refine TO.dz 527433727 (some 27) rfl rfl rfl rfl (Val.does (Val.b2s (l := [Go.X.b8 kd, Go.X.b8 d.length]) rfl us23 ui5 un9 rfl (.some (Rd.get (i := 2) rfl rfl)))) ?_
                  | refine TO.dz 527433727 (some 27) rfl rfl rfl rfl (Val.does (Val.b2s (l := [Go.X.b8 kd, Go.X.b8 d.length]) rfl us23 ui5 un9 rfl (.some (Rd.get (i := 3) rfl rfl)))) ?_
                rintro _ _ ⟨rfl, rfl⟩
                refine roK ?_
                first
                  | refine TA.tk 20 528482303 rfl rfl rfl (Val.addL rfl rfl (by first | omega | (simp <;> omega))) ?_
                  | refine TA.tk 20 528482303 rfl rfl rfl (Val.addS rfl rfl (by first | decide | omega)) ?_
                first
                  | refine TA.tk 23 536870911 rfl rfl rfl (Val.addL rfl rfl (by first | omega | (simp <;> omega))) ?_
                  | refine TA.tk 23 536870911 rfl rfl rfl (Val.addS rfl rfl (by first | decide | omega)) ?_
                refine TA.one 29 (by kernel_rfl) ?_
                first
                  | refine TO.dz 1073741823 (some 37) rfl rfl rfl rfl (Val.does (Val.b2s (l := List.replicate (48 - d.length) 0) rfl us23 ui5 un9 (by simp) (rdS_z (i := 0) rfl))) ?_
                  | refine TO.dz 1073741823 (some 37) rfl rfl rfl rfl (Val.does (Val.b2s (l := List.replicate (48 - d.length) 0) rfl us23 ui5 un9 (by simp) (rdS_z (i := 1) rfl))) ?_
                  | refine TO.dz 1073741823 (some 37) rfl rfl rfl rfl (Val.does (Val.b2s (l := List.replicate (48 - d.length) 0) rfl us23 ui5 un9 (by simp) (rdS_z (i := 2) rfl))) ?_
                  | refine TO.dz 1073741823 (some 37) rfl rfl rfl rfl (Val.does (Val.b2s (l := List.replicate (48 - d.length) 0) rfl us23 ui5 un9 (by simp) (rdS_z (i := 3) rfl))) ?_
                rintro _ _ ⟨rfl, rfl⟩
                refine roK ?_
                first
                  | refine TA.tk 30 2147483647 rfl rfl rfl (Val.addL rfl rfl (by first | omega | (simp <;> omega))) ?_
                  | refine TA.tk 30 2147483647 rfl rfl rfl (Val.addS rfl rfl (by first | decide | omega)) ?_
                refine TA.tk 31 4294967295 rfl rfl rfl (Val.assign rfl) ?_
                refine TA.done (by kernel_rfl) ?_
                refine AtX.join () ?_ (Sub.cons rfl (Sub.cons rfl (Sub.nil _))) (by repeat (first | exact ro_refl | exact ro_pre | refine ro_tail ?_ | refine ro_app ?_))
                trivial
              · skip
                first
                  | refine TO.dz 1063780351 (some 37) rfl rfl rfl rfl (Val.does (Val.b2s (l := List.replicate (48 - d.length) 0) rfl us23 ui5 un9 (by simp) (rdS_z (i := 0) rfl))) ?_
                  | refine TO.dz 1063780351 (some 37) rfl rfl rfl rfl (Val.does (Val.b2s (l := List.replicate (48 - d.length) 0) rfl us23 ui5 un9 (by simp) (rdS_z (i := 1) rfl))) ?_
                  | refine TO.dz 1063780351 (some 37) rfl rfl rfl rfl (Val.does (Val.b2s (l := List.replicate (48 - d.length) 0) rfl us23 ui5 un9 (by simp) (rdS_z (i := 2) rfl))) ?_
                  | refine TO.dz 1063780351 (some 37) rfl rfl rfl rfl (Val.does (Val.b2s (l := List.replicate (48 - d.length) 0) rfl us23 ui5 un9 (by simp) (rdS_z (i := 3) rfl))) ?_
                rintro _ _ ⟨rfl, rfl⟩
                refine roK ?_
                refine TA.one 19 (by kernel_rfl) ?_
                first
                  | refine TO.dz 1064304639 (some 27) rfl rfl rfl rfl (Val.does (Val.b2s (l := [Go.X.b8 kd, Go.X.b8 d.length]) rfl us23 ui5 un9 rfl (.some (Rd.get (i := 0) rfl rfl)))) ?_
                  | refine TO.dz 1064304639 (some 27) rfl rfl rfl rfl (Val.does (Val.b2s (l := [Go.X.b8 kd, Go.X.b8 d.length]) rfl us23 ui5 un9 rfl (.some (Rd.get (i := 1) rfl rfl)))) ?_
                  | refine TO.dz 1064304639 (some 27) rfl rfl rfl rfl (Val.does (Val.b2s (l := [Go.X.b8 kd, Go.X.b8 d.length]) rfl us23 ui5 un9 rfl (.some (Rd.get (i := 2) rfl rfl)))) ?_
                  | refine TO.dz 1064304639 (some 27) rfl rfl rfl rfl (Val.does (Val.b2s (l := [Go.X.b8 kd, Go.X.b8 d.length]) rfl us23 ui5 un9 rfl (.some (Rd.get (i := 3) rfl rfl)))) ?_
                rintro _ _ ⟨rfl, rfl⟩
                refine roK ?_
                first
                  | refine TA.tk 20 1065353215 rfl rfl rfl (Val.addL rfl rfl (by first | omega | (simp <;> omega))) ?_
                  | refine TA.tk 20 1065353215 rfl rfl rfl (Val.addS rfl rfl (by first | decide | omega)) ?_
                first
                  | refine TA.tk 23 1073741823 rfl rfl rfl (Val.addL rfl rfl (by first | omega | (simp <;> omega))) ?_
                  | refine TA.tk 23 1073741823 rfl rfl rfl (Val.addS rfl rfl (by first | decide | omega)) ?_
                first
                  | refine TA.tk 30 2147483647 rfl rfl rfl (Val.addL rfl rfl (by first | omega | (simp <;> omega))) ?_
                  | refine TA.tk 30 2147483647 rfl rfl rfl (Val.addS rfl rfl (by first | decide | omega)) ?_
                refine TA.tk 31 4294967295 rfl rfl rfl (Val.assign rfl) ?_
                refine TA.done (by kernel_rfl) ?_
                refine AtX.join () ?_ (Sub.cons rfl (Sub.cons rfl (Sub.nil _))) (by repeat (first | exact ro_refl | exact ro_pre | refine ro_tail ?_ | refine ro_app ?_))
                trivial
            · skip
              first
                | refine TO.dz 527431935 (some 27) rfl rfl rfl rfl (Val.does (Val.b2s (l := [Go.X.b8 kd, Go.X.b8 d.length]) rfl us23 ui5 un9 rfl (.some (Rd.get (i := 0) rfl rfl)))) ?_
                | refine TO.dz 527431935 (some 27) rfl rfl rfl rfl (Val.does (Val.b2s (l := [Go.X.b8 kd, Go.X.b8 d.length]) rfl us23 ui5 un9 rfl (.some (Rd.get (i := 1) rfl rfl)))) ?_
                | refine TO.dz 527431935 (some 27) rfl rfl rfl rfl (Val.does (Val.b2s (l := [Go.X.b8 kd, Go.X.b8 d.length]) rfl us23 ui5 un9 rfl (.some (Rd.get (i := 2) rfl rfl)))) ?_
                | refine TO.dz 527431935 (some 27) rfl rfl rfl rfl (Val.does (Val.b2s (l := [Go.X.b8 kd, Go.X.b8 d.length]) rfl us23 ui5 un9 rfl (.some (Rd.get (i := 3) rfl rfl)))) ?_
              rintro _ _ ⟨rfl, rfl⟩
              refine roK ?_
              refine TA.two 8 29 (by kernel_rfl) ?_ ?_
              · skip
                refine TO.dz 527432191 (some 16) rfl rfl rfl rfl (Does.callF go23 rfl (refPut_fn _ _)) ?_
                rintro _ _ ⟨rfl, rfl⟩
                refine roK ?_
                refine TA.tk 9 527432703 rfl rfl rfl (Val.sliceL (i := 0) (j := 2) rfl un9 rfl rfl rfl rfl (by omega) (by simp)) ?_
                first
                  | refine TA.tk 10 527433727 rfl rfl rfl (Val.addL rfl rfl (by first | omega | (simp <;> omega))) ?_
                  | refine TA.tk 10 527433727 rfl rfl rfl (Val.addS rfl rfl (by first | decide | omega)) ?_
                first
                  | refine TA.tk 20 528482303 rfl rfl rfl (Val.addL rfl rfl (by first | omega | (simp <;> omega))) ?_
                  | refine TA.tk 20 528482303 rfl rfl rfl (Val.addS rfl rfl (by first | decide | omega)) ?_
                first
                  | refine TA.tk 23 536870911 rfl rfl rfl (Val.addL rfl rfl (by first | omega | (simp <;> omega))) ?_
                  | refine TA.tk 23 536870911 rfl rfl rfl (Val.addS rfl rfl (by first | decide | omega)) ?_
                refine TA.one 29 (by kernel_rfl) ?_
                first
                  | refine TO.dz 1073741823 (some 37) rfl rfl rfl rfl (Val.does (Val.b2s (l := List.replicate (48 - d.length) 0) rfl us23 ui5 un9 (by simp) (rdS_z (i := 0) rfl))) ?_
                  | refine TO.dz 1073741823 (some 37) rfl rfl rfl rfl (Val.does (Val.b2s (l := List.replicate (48 - d.length) 0) rfl us23 ui5 un9 (by simp) (rdS_z (i := 1) rfl))) ?_
                  | refine TO.dz 1073741823 (some 37) rfl rfl rfl rfl (Val.does (Val.b2s (l := List.replicate (48 - d.length) 0) rfl us23 ui5 un9 (by simp) (rdS_z (i := 2) rfl))) ?_
                  | refine TO.dz 1073741823 (some 37) rfl rfl rfl rfl (Val.does (Val.b2s (l := List.replicate (48 - d.length) 0) rfl us23 ui5 un9 (by simp) (rdS_z (i := 3) rfl))) ?_
                rintro _ _ ⟨rfl, rfl⟩
                refine roK ?_
                first
                  | refine TA.tk 30 2147483647 rfl rfl rfl (Val.addL rfl rfl (by first | omega | (simp <;> omega))) ?_
                  | refine TA.tk 30 2147483647 rfl rfl rfl (Val.addS rfl rfl (by first | decide | omega)) ?_
                refine TA.tk 31 4294967295 rfl rfl rfl (Val.assign rfl) ?_
                refine TA.done (by kernel_rfl) ?_
                refine AtX.join () ?_ (Sub.cons rfl (Sub.cons rfl (Sub.nil _))) (by repeat (first | exact ro_refl | exact ro_pre | refine ro_tail ?_ | refine ro_app ?_))
                trivial
              · skip
                first
                  | refine TO.dz 1064302847 (some 37) rfl rfl rfl rfl (Val.does (Val.b2s (l := List.replicate (48 - d.length) 0) rfl us23 ui5 un9 (by simp) (rdS_z (i := 0) rfl))) ?_
                  | refine TO.dz 1064302847 (some 37) rfl rfl rfl rfl (Val.does (Val.b2s (l := List.replicate (48 - d.length) 0) rfl us23 ui5 un9 (by simp) (rdS_z (i := 1) rfl))) ?_
                  | refine TO.dz 1064302847 (some 37) rfl rfl rfl rfl (Val.does (Val.b2s (l := List.replicate (48 - d.length) 0) rfl us23 ui5 un9 (by simp) (rdS_z (i := 2) rfl))) ?_
                  | refine TO.dz 1064302847 (some 37) rfl rfl rfl rfl (Val.does (Val.b2s (l := List.replicate (48 - d.length) 0) rfl us23 ui5 un9 (by simp) (rdS_z (i := 3) rfl))) ?_
                rintro _ _ ⟨rfl, rfl⟩
                refine roK ?_
                refine TA.one 8 (by kernel_rfl) ?_
                refine TO.dz 1064303103 (some 16) rfl rfl rfl rfl (Does.callF go23 rfl (refPut_fn _ _)) ?_
                rintro _ _ ⟨rfl, rfl⟩
                refine roK ?_
                refine TA.tk 9 1064303615 rfl rfl rfl (Val.sliceL (i := 0) (j := 2) rfl un9 rfl rfl rfl rfl (by omega) (by simp)) ?_
                first
                  | refine TA.tk 10 1064304639 rfl rfl rfl (Val.addL rfl rfl (by first | omega | (simp <;> omega))) ?_
                  | refine TA.tk 10 1064304639 rfl rfl rfl (Val.addS rfl rfl (by first | decide | omega)) ?_
                first
                  | refine TA.tk 20 1065353215 rfl rfl rfl (Val.addL rfl rfl (by first | omega | (simp <;> omega))) ?_
                  | refine TA.tk 20 1065353215 rfl rfl rfl (Val.addS rfl rfl (by first | decide | omega)) ?_
                first
                  | refine TA.tk 23 1073741823 rfl rfl rfl (Val.addL rfl rfl (by first | omega | (simp <;> omega))) ?_
                  | refine TA.tk 23 1073741823 rfl rfl rfl (Val.addS rfl rfl (by first | decide | omega)) ?_
                first
                  | refine TA.tk 30 2147483647 rfl rfl rfl (Val.addL rfl rfl (by first | omega | (simp <;> omega))) ?_
                  | refine TA.tk 30 2147483647 rfl rfl rfl (Val.addS rfl rfl (by first | decide | omega)) ?_
                refine TA.tk 31 4294967295 rfl rfl rfl (Val.assign rfl) ?_
                refine TA.done (by kernel_rfl) ?_
                refine AtX.join () ?_ (Sub.cons rfl (Sub.cons rfl (Sub.nil _))) (by repeat (first | exact ro_refl | exact ro_pre | refine ro_tail ?_ | refine ro_app ?_))
                trivial
            · skip
              first
                | refine TO.dz 1063778559 (some 37) rfl rfl rfl rfl (Val.does (Val.b2s (l := List.replicate (48 - d.length) 0) rfl us23 ui5 un9 (by simp) (rdS_z (i := 0) rfl))) ?_
                | refine TO.dz 1063778559 (some 37) rfl rfl rfl rfl (Val.does (Val.b2s (l := List.replicate (48 - d.length) 0) rfl us23 ui5 un9 (by simp) (rdS_z (i := 1) rfl))) ?_
                | refine TO.dz 1063778559 (some 37) rfl rfl rfl rfl (Val.does (Val.b2s (l := List.replicate (48 - d.length) 0) rfl us23 ui5 un9 (by simp) (rdS_z (i := 2) rfl))) ?_
                | refine TO.dz 1063778559 (some 37) rfl rfl rfl rfl (Val.does (Val.b2s (l := List.replicate (48 - d.length) 0) rfl us23 ui5 un9 (by simp) (rdS_z (i := 3) rfl))) ?_
              rintro _ _ ⟨rfl, rfl⟩
              refine roK ?_
              refine TA.two 8 19 (by kernel_rfl) ?_ ?_
              · skip
                refine TO.dz 1063778815 (some 16) rfl rfl rfl rfl (Does.callF go23 rfl (refPut_fn _ _)) ?_
                rintro _ _ ⟨rfl, rfl⟩
                refine roK ?_
                refine TA.tk 9 1063779327 rfl rfl rfl (Val.sliceL (i := 0) (j := 2) rfl un9 rfl rfl rfl rfl (by omega) (by simp)) ?_
                first
                  | refine TA.tk 10 1063780351 rfl rfl rfl (Val.addL rfl rfl (by first | omega | (simp <;> omega))) ?_
                  | refine TA.tk 10 1063780351 rfl rfl rfl (Val.addS rfl rfl (by first | decide | omega)) ?_
                refine TA.one 19 (by kernel_rfl) ?_
                first
                  | refine TO.dz 1064304639 (some 27) rfl rfl rfl rfl (Val.does (Val.b2s (l := [Go.X.b8 kd, Go.X.b8 d.length]) rfl us23 ui5 un9 rfl (.some (Rd.get (i := 0) rfl rfl)))) ?_
                  | refine TO.dz 1064304639 (some 27) rfl rfl rfl rfl (Val.does (Val.b2s (l := [Go.X.b8 kd, Go.X.b8 d.length]) rfl us23 ui5 un9 rfl (.some (Rd.get (i := 1) rfl rfl)))) ?_
                  | refine TO.dz 1064304639 (some 27) rfl rfl rfl rfl (Val.does (Val.b2s (l := [Go.X.b8 kd, Go.X.b8 d.length]) rfl us23 ui5 un9 rfl (.some (Rd.get (i := 2) rfl rfl)))) ?_
                  | refine TO.dz 1064304639 (some 27) rfl rfl rfl rfl (Val.does (Val.b2s (l := [Go.X.b8 kd, Go.X.b8 d.length]) rfl us23 ui5 un9 rfl (.some (Rd.get (i := 3) rfl rfl)))) ?_
                rintro _ _ ⟨rfl, rfl⟩
                refine roK ?_
                first
                  | refine TA.tk 20 1065353215 rfl rfl rfl (Val.addL rfl rfl (by first | omega | (simp <;> omega))) ?_
                  | refine TA.tk 20 1065353215 rfl rfl rfl (Val.addS rfl rfl (by first | decide | omega)) ?_
                first
                  | refine TA.tk 23 1073741823 rfl rfl rfl (Val.addL rfl rfl (by first | omega | (simp <;> omega))) ?_
                  | refine TA.tk 23 1073741823 rfl rfl rfl (Val.addS rfl rfl (by first | decide | omega)) ?_
                first
                  | refine TA.tk 30 2147483647 rfl rfl rfl (Val.addL rfl rfl (by first | omega | (simp <;> omega))) ?_
                  | refine TA.tk 30 2147483647 rfl rfl rfl (Val.addS rfl rfl (by first | decide | omega)) ?_
                refine TA.tk 31 4294967295 rfl rfl rfl (Val.assign rfl) ?_
                refine TA.done (by kernel_rfl) ?_
                refine AtX.join () ?_ (Sub.cons rfl (Sub.cons rfl (Sub.nil _))) (by repeat (first | exact ro_refl | exact ro_pre | refine ro_tail ?_ | refine ro_app ?_))
                trivial
              · skip
                first
                  | refine TO.dz 1064302847 (some 27) rfl rfl rfl rfl (Val.does (Val.b2s (l := [Go.X.b8 kd, Go.X.b8 d.length]) rfl us23 ui5 un9 rfl (.some (Rd.get (i := 0) rfl rfl)))) ?_
                  | refine TO.dz 1064302847 (some 27) rfl rfl rfl rfl (Val.does (Val.b2s (l := [Go.X.b8 kd, Go.X.b8 d.length]) rfl us23 ui5 un9 rfl (.some (Rd.get (i := 1) rfl rfl)))) ?_
                  | refine TO.dz 1064302847 (some 27) rfl rfl rfl rfl (Val.does (Val.b2s (l := [Go.X.b8 kd, Go.X.b8 d.length]) rfl us23 ui5 un9 rfl (.some (Rd.get (i := 2) rfl rfl)))) ?_
                  | refine TO.dz 1064302847 (some 27) rfl rfl rfl rfl (Val.does (Val.b2s (l := [Go.X.b8 kd, Go.X.b8 d.length]) rfl us23 ui5 un9 rfl (.some (Rd.get (i := 3) rfl rfl)))) ?_
                rintro _ _ ⟨rfl, rfl⟩
                refine roK ?_
                refine TA.one 8 (by kernel_rfl) ?_
                refine TO.dz 1064303103 (some 16) rfl rfl rfl rfl (Does.callF go23 rfl (refPut_fn _ _)) ?_
                rintro _ _ ⟨rfl, rfl⟩
                refine roK ?_
                refine TA.tk 9 1064303615 rfl rfl rfl (Val.sliceL (i := 0) (j := 2) rfl un9 rfl rfl rfl rfl (by omega) (by simp)) ?_
                first
                  | refine TA.tk 10 1064304639 rfl rfl rfl (Val.addL rfl rfl (by first | omega | (simp <;> omega))) ?_
                  | refine TA.tk 10 1064304639 rfl rfl rfl (Val.addS rfl rfl (by first | decide | omega)) ?_
                first
                  | refine TA.tk 20 1065353215 rfl rfl rfl (Val.addL rfl rfl (by first | omega | (simp <;> omega))) ?_
                  | refine TA.tk 20 1065353215 rfl rfl rfl (Val.addS rfl rfl (by first | decide | omega)) ?_
                first
                  | refine TA.tk 23 1073741823 rfl rfl rfl (Val.addL rfl rfl (by first | omega | (simp <;> omega))) ?_
                  | refine TA.tk 23 1073741823 rfl rfl rfl (Val.addS rfl rfl (by first | decide | omega)) ?_
                first
                  | refine TA.tk 30 2147483647 rfl rfl rfl (Val.addL rfl rfl (by first | omega | (simp <;> omega))) ?_
                  | refine TA.tk 30 2147483647 rfl rfl rfl (Val.addS rfl rfl (by first | decide | omega)) ?_
                refine TA.tk 31 4294967295 rfl rfl rfl (Val.assign rfl) ?_
                refine TA.done (by kernel_rfl) ?_
                refine AtX.join () ?_ (Sub.cons rfl (Sub.cons rfl (Sub.nil _))) (by repeat (first | exact ro_refl | exact ro_pre | refine ro_tail ?_ | refine ro_app ?_))
                trivial
        · skip
          first
            | refine TO.dz 258996455 (some 27) rfl rfl rfl rfl (Val.does (Val.b2s (l := [Go.X.b8 kd, Go.X.b8 d.length]) rfl us23 ui5 un9 rfl (.some (Rd.get (i := 0) rfl rfl)))) ?_
            | refine TO.dz 258996455 (some 27) rfl rfl rfl rfl (Val.does (Val.b2s (l := [Go.X.b8 kd, Go.X.b8 d.length]) rfl us23 ui5 un9 rfl (.some (Rd.get (i := 1) rfl rfl)))) ?_
            | refine TO.dz 258996455 (some 27) rfl rfl rfl rfl (Val.does (Val.b2s (l := [Go.X.b8 kd, Go.X.b8 d.length]) rfl us23 ui5 un9 rfl (.some (Rd.get (i := 2) rfl rfl)))) ?_
            | refine TO.dz 258996455 (some 27) rfl rfl rfl rfl (Val.does (Val.b2s (l := [Go.X.b8 kd, Go.X.b8 d.length]) rfl us23 ui5 un9 rfl (.some (Rd.get (i := 3) rfl rfl)))) ?_
          rintro _ _ ⟨rfl, rfl⟩
          refine roK ?_
          refine TA.two 3 28 (by kernel_rfl) ?_ ?_
          · skip
            refine TO.dz 258996463 (some 11) rfl rfl rfl rfl (Does.callF go23 rfl (refPut_fn _ _)) ?_
            rintro _ _ ⟨rfl, rfl⟩
            refine roK ?_
            refine TA.tk 4 258996479 rfl rfl rfl (Val.sliceL (i := 0) (j := 4) rfl un9 rfl rfl rfl rfl (by omega) (by simp)) ?_
            refine TA.two 8 28 (by kernel_rfl) ?_ ?_
            · skip
              refine TO.dz 258996735 (some 16) rfl rfl rfl rfl (Does.callF go23 rfl (refPut_fn _ _)) ?_
              rintro _ _ ⟨rfl, rfl⟩
              refine roK ?_
              refine TA.tk 9 258997247 rfl rfl rfl (Val.sliceL (i := 0) (j := 2) rfl un9 rfl rfl rfl rfl (by omega) (by simp)) ?_
              first
                | refine TA.tk 10 258998271 rfl rfl rfl (Val.addL rfl rfl (by first | omega | (simp <;> omega))) ?_
                | refine TA.tk 10 258998271 rfl rfl rfl (Val.addS rfl rfl (by first | decide | omega)) ?_
              first
                | refine TA.tk 20 260046847 rfl rfl rfl (Val.addL rfl rfl (by first | omega | (simp <;> omega))) ?_
                | refine TA.tk 20 260046847 rfl rfl rfl (Val.addS rfl rfl (by first | decide | omega)) ?_
              first
                | refine TA.tk 23 268435455 rfl rfl rfl (Val.addL rfl rfl (by first | omega | (simp <;> omega))) ?_
                | refine TA.tk 23 268435455 rfl rfl rfl (Val.addS rfl rfl (by first | decide | omega)) ?_
              refine TA.one 28 (by kernel_rfl) ?_
              refine TO.dz 536870911 (some 36) rfl rfl rfl rfl (Does.makeSlice (n := 48 - d.length) (c := 48 - d.length) rfl rfl sl23 sz5 by5 ze5 rfl (by omega) (by omega) (by omega) (by omega) (by omega)) ?_
              rintro _ _ ⟨bz, rfl, rfl⟩
              refine roK ?_
              refine TA.one 29 (by kernel_rfl) ?_
              first
                | refine TO.dz 1073741823 (some 37) rfl rfl rfl rfl (Val.does (Val.b2s (l := List.replicate (48 - d.length) 0) rfl us23 ui5 un9 (by simp) (rdS_z (i := 0) rfl))) ?_
                | refine TO.dz 1073741823 (some 37) rfl rfl rfl rfl (Val.does (Val.b2s (l := List.replicate (48 - d.length) 0) rfl us23 ui5 un9 (by simp) (rdS_z (i := 1) rfl))) ?_
                | refine TO.dz 1073741823 (some 37) rfl rfl rfl rfl (Val.does (Val.b2s (l := List.replicate (48 - d.length) 0) rfl us23 ui5 un9 (by simp) (rdS_z (i := 2) rfl))) ?_
                | refine TO.dz 1073741823 (some 37) rfl rfl rfl rfl (Val.does (Val.b2s (l := List.replicate (48 - d.length) 0) rfl us23 ui5 un9 (by simp) (rdS_z (i := 3) rfl))) ?_
              rintro _ _ ⟨rfl, rfl⟩
              refine roK ?_
              first
                | refine TA.tk 30 2147483647 rfl rfl rfl (Val.addL rfl rfl (by first | omega | (simp <;> omega))) ?_
                | refine TA.tk 30 2147483647 rfl rfl rfl (Val.addS rfl rfl (by first | decide | omega)) ?_
              refine TA.tk 31 4294967295 rfl rfl rfl (Val.assign rfl) ?_
              refine TA.done (by kernel_rfl) ?_
              refine AtX.join () ?_ (Sub.cons rfl (Sub.cons rfl (Sub.nil _))) (by repeat (first | exact ro_refl | exact ro_pre | refine ro_tail ?_ | refine ro_app ?_))
              trivial
            · skip
              refine TO.dz 527431935 (some 36) rfl rfl rfl rfl (Does.makeSlice (n := 48 - d.length) (c := 48 - d.length) rfl rfl sl23 sz5 by5 ze5 rfl (by omega) (by omega) (by omega) (by omega) (by omega)) ?_
              rintro _ _ ⟨bz, rfl, rfl⟩
              refine roK ?_
              refine TA.two 8 29 (by kernel_rfl) ?_ ?_
              · skip
                refine TO.dz 527432191 (some 16) rfl rfl rfl rfl (Does.callF go23 rfl (refPut_fn _ _)) ?_
                rintro _ _ ⟨rfl, rfl⟩
                refine roK ?_
                refine TA.tk 9 527432703 rfl rfl rfl (Val.sliceL (i := 0) (j := 2) rfl un9 rfl rfl rfl rfl (by omega) (by simp)) ?_
                first
                  | refine TA.tk 10 527433727 rfl rfl rfl (Val.addL rfl rfl (by first | omega | (simp <;> omega))) ?_
                  | refine TA.tk 10 527433727 rfl rfl rfl (Val.addS rfl rfl (by first | decide | omega)) ?_
                first
                  | refine TA.tk 20 528482303 rfl rfl rfl (Val.addL rfl rfl (by first | omega | (simp <;> omega))) ?_
                  | refine TA.tk 20 528482303 rfl rfl rfl (Val.addS rfl rfl (by first | decide | omega)) ?_
                first
                  | refine TA.tk 23 536870911 rfl rfl rfl (Val.addL rfl rfl (by first | omega | (simp <;> omega))) ?_
                  | refine TA.tk 23 536870911 rfl rfl rfl (Val.addS rfl rfl (by first | decide | omega)) ?_
                refine TA.one 29 (by kernel_rfl) ?_
                first
                  | refine TO.dz 1073741823 (some 37) rfl rfl rfl rfl (Val.does (Val.b2s (l := List.replicate (48 - d.length) 0) rfl us23 ui5 un9 (by simp) (rdS_z (i := 0) rfl))) ?_
                  | refine TO.dz 1073741823 (some 37) rfl rfl rfl rfl (Val.does (Val.b2s (l := List.replicate (48 - d.length) 0) rfl us23 ui5 un9 (by simp) (rdS_z (i := 1) rfl))) ?_
                  | refine TO.dz 1073741823 (some 37) rfl rfl rfl rfl (Val.does (Val.b2s (l := List.replicate (48 - d.length) 0) rfl us23 ui5 un9 (by simp) (rdS_z (i := 2) rfl))) ?_
                  | refine TO.dz 1073741823 (some 37) rfl rfl rfl rfl (Val.does (Val.b2s (l := List.replicate (48 - d.length) 0) rfl us23 ui5 un9 (by simp) (rdS_z (i := 3) rfl))) ?_
                rintro _ _ ⟨rfl, rfl⟩
                refine roK ?_
                first
                  | refine TA.tk 30 2147483647 rfl rfl rfl (Val.addL rfl rfl (by first | omega | (simp <;> omega))) ?_
                  | refine TA.tk 30 2147483647 rfl rfl rfl (Val.addS rfl rfl (by first | decide | omega)) ?_
                refine TA.tk 31 4294967295 rfl rfl rfl (Val.assign rfl) ?_
                refine TA.done (by kernel_rfl) ?_
                refine AtX.join () ?_ (Sub.cons rfl (Sub.cons rfl (Sub.nil _))) (by repeat (first | exact ro_refl | exact ro_pre | refine ro_tail ?_ | refine ro_app ?_))
                trivial
              · skip
                first
                  | refine TO.dz 1064302847 (some 37) rfl rfl rfl rfl (Val.does (Val.b2s (l := List.replicate (48 - d.length) 0) rfl us23 ui5 un9 (by simp) (rdS_z (i := 0) rfl))) ?_
                  | refine TO.dz 1064302847 (some 37) rfl rfl rfl rfl (Val.does (Val.b2s (l := List.replicate (48 - d.length) 0) rfl us23 ui5 un9 (by simp) (rdS_z (i := 1) rfl))) ?_
                  | refine TO.dz 1064302847 (some 37) rfl rfl rfl rfl (Val.does (Val.b2s (l := List.replicate (48 - d.length) 0) rfl us23 ui5 un9 (by simp) (rdS_z (i := 2) rfl))) ?_
                  | refine TO.dz 1064302847 (some 37) rfl rfl rfl rfl (Val.does (Val.b2s (l := List.replicate (48 - d.length) 0) rfl us23 ui5 un9 (by simp) (rdS_z (i := 3) rfl))) ?_
                rintro _ _ ⟨rfl, rfl⟩
                refine roK ?_
                refine TA.one 8 (by kernel_rfl) ?_
                refine TO.dz 1064303103 (some 16) rfl rfl rfl rfl (Does.callF go23 rfl (refPut_fn _ _)) ?_
                rintro _ _ ⟨rfl, rfl⟩
                refine roK ?_
                refine TA.tk 9 1064303615 rfl rfl rfl (Val.sliceL (i := 0) (j := 2) rfl un9 rfl rfl rfl rfl (by omega) (by simp)) ?_
                first
                  | refine TA.tk 10 1064304639 rfl rfl rfl (Val.addL rfl rfl (by first | omega | (simp <;> omega))) ?_
                  | refine TA.tk 10 1064304639 rfl rfl rfl (Val.addS rfl rfl (by first | decide | omega)) ?_
                first
                  | refine TA.tk 20 1065353215 rfl rfl rfl (Val.addL rfl rfl (by first | omega | (simp <;> omega))) ?_
                  | refine TA.tk 20 1065353215 rfl rfl rfl (Val.addS rfl rfl (by first | decide | omega)) ?_
                first
                  | refine TA.tk 23 1073741823 rfl rfl rfl (Val.addL rfl rfl (by first | omega | (simp <;> omega))) ?_
                  | refine TA.tk 23 1073741823 rfl rfl rfl (Val.addS rfl rfl (by first | decide | omega)) ?_
                first
                  | refine TA.tk 30 2147483647 rfl rfl rfl (Val.addL rfl rfl (by first | omega | (simp <;> omega))) ?_
                  | refine TA.tk 30 2147483647 rfl rfl rfl (Val.addS rfl rfl (by first | decide | omega)) ?_
                refine TA.tk 31 4294967295 rfl rfl rfl (Val.assign rfl) ?_
                refine TA.done (by kernel_rfl) ?_
                refine AtX.join () ?_ (Sub.cons rfl (Sub.cons rfl (Sub.nil _))) (by repeat (first | exact ro_refl | exact ro_pre | refine ro_tail ?_ | refine ro_app ?_))
                trivial
          · skip
            refine TO.dz 527431911 (some 36) rfl rfl rfl rfl (Does.makeSlice (n := 48 - d.length) (c := 48 - d.length) rfl rfl sl23 sz5 by5 ze5 rfl (by omega) (by omega) (by omega) (by omega) (by omega)) ?_
            rintro _ _ ⟨bz, rfl, rfl⟩
            refine roK ?_
            refine TA.two 3 29 (by kernel_rfl) ?_ ?_
            · skip
              refine TO.dz 527431919 (some 11) rfl rfl rfl rfl (Does.callF go23 rfl (refPut_fn _ _)) ?_
              rintro _ _ ⟨rfl, rfl⟩
              refine roK ?_
              refine TA.tk 4 527431935 rfl rfl rfl (Val.sliceL (i := 0) (j := 4) rfl un9 rfl rfl rfl rfl (by omega) (by simp)) ?_
              refine TA.two 8 29 (by kernel_rfl) ?_ ?_
              · skip
                refine TO.dz 527432191 (some 16) rfl rfl rfl rfl (Does.callF go23 rfl (refPut_fn _ _)) ?_
                rintro _ _ ⟨rfl, rfl⟩
                refine roK ?_
                refine TA.tk 9 527432703 rfl rfl rfl (Val.sliceL (i := 0) (j := 2) rfl un9 rfl rfl rfl rfl (by omega) (by simp)) ?_
                first
                  | refine TA.tk 10 527433727 rfl rfl rfl (Val.addL rfl rfl (by first | omega | (simp <;> omega))) ?_
                  | refine TA.tk 10 527433727 rfl rfl rfl (Val.addS rfl rfl (by first | decide | omega)) ?_
                first
                  | refine TA.tk 20 528482303 rfl rfl rfl (Val.addL rfl rfl (by first | omega | (simp <;> omega))) ?_
                  | refine TA.tk 20 528482303 rfl rfl rfl (Val.addS rfl rfl (by first | decide | omega)) ?_
                first
                  | refine TA.tk 23 536870911 rfl rfl rfl (Val.addL rfl rfl (by first | omega | (simp <;> omega))) ?_
                  | refine TA.tk 23 536870911 rfl rfl rfl (Val.addS rfl rfl (by first | decide | omega)) ?_
                refine TA.one 29 (by kernel_rfl) ?_
                first
                  | refine TO.dz 1073741823 (some 37) rfl rfl rfl rfl (Val.does (Val.b2s (l := List.replicate (48 - d.length) 0) rfl us23 ui5 un9 (by simp) (rdS_z (i := 0) rfl))) ?_
                  | refine TO.dz 1073741823 (some 37) rfl rfl rfl rfl (Val.does (Val.b2s (l := List.replicate (48 - d.length) 0) rfl us23 ui5 un9 (by simp) (rdS_z (i := 1) rfl))) ?_
                  | refine TO.dz 1073741823 (some 37) rfl rfl rfl rfl (Val.does (Val.b2s (l := List.replicate (48 - d.length) 0) rfl us23 ui5 un9 (by simp) (rdS_z (i := 2) rfl))) ?_
                  | refine TO.dz 1073741823 (some 37) rfl rfl rfl rfl (Val.does (Val.b2s (l := List.replicate (48 - d.length) 0) rfl us23 ui5 un9 (by simp) (rdS_z (i := 3) rfl))) ?_
                rintro _ _ ⟨rfl, rfl⟩
                refine roK ?_
                first
                  | refine TA.tk 30 2147483647 rfl rfl rfl (Val.addL rfl rfl (by first | omega | (simp <;> omega))) ?_
                  | refine TA.tk 30 2147483647 rfl rfl rfl (Val.addS rfl rfl (by first | decide | omega)) ?_
                refine TA.tk 31 4294967295 rfl rfl rfl (Val.assign rfl) ?_
                refine TA.done (by kernel_rfl) ?_
                refine AtX.join () ?_ (Sub.cons rfl (Sub.cons rfl (Sub.nil _))) (by repeat (first | exact ro_refl | exact ro_pre | refine ro_tail ?_ | refine ro_app ?_))
                trivial
              · skip
                first
                  | refine TO.dz 1064302847 (some 37) rfl rfl rfl rfl (Val.does (Val.b2s (l := List.replicate (48 - d.length) 0) rfl us23 ui5 un9 (by simp) (rdS_z (i := 0) rfl))) ?_
                  | refine TO.dz 1064302847 (some 37) rfl rfl rfl rfl (Val.does (Val.b2s (l := List.replicate (48 - d.length) 0) rfl us23 ui5 un9 (by simp) (rdS_z (i := 1) rfl))) ?_
                  | refine TO.dz 1064302847 (some 37) rfl rfl rfl rfl (Val.does (Val.b2s (l := List.replicate (48 - d.length) 0) rfl us23 ui5 un9 (by simp) (rdS_z (i := 2) rfl))) ?_
                  | refine TO.dz 1064302847 (some 37) rfl rfl rfl rfl (Val.does (Val.b2s (l := List.replicate (48 - d.length) 0) rfl us23 ui5 un9 (by simp) (rdS_z (i := 3) rfl))) ?_
                rintro _ _ ⟨rfl, rfl⟩
                refine roK ?_
                refine TA.one 8 (by kernel_rfl) ?_
                refine TO.dz 1064303103 (some 16) rfl rfl rfl rfl (Does.callF go23 rfl (refPut_fn _ _)) ?_
                rintro _ _ ⟨rfl, rfl⟩
                refine roK ?_
                refine TA.tk 9 1064303615 rfl rfl rfl (Val.sliceL (i := 0) (j := 2) rfl un9 rfl rfl rfl rfl (by omega) (by simp)) ?_
                first
                  | refine TA.tk 10 1064304639 rfl rfl rfl (Val.addL rfl rfl (by first | omega | (simp <;> omega))) ?_
                  | refine TA.tk 10 1064304639 rfl rfl rfl (Val.addS rfl rfl (by first | decide | omega)) ?_
                first
                  | refine TA.tk 20 1065353215 rfl rfl rfl (Val.addL rfl rfl (by first | omega | (simp <;> omega))) ?_
                  | refine TA.tk 20 1065353215 rfl rfl rfl (Val.addS rfl rfl (by first | decide | omega)) ?_
                first
                  | refine TA.tk 23 1073741823 rfl rfl rfl (Val.addL rfl rfl (by first | omega | (simp <;> omega))) ?_
                  | refine TA.tk 23 1073741823 rfl rfl rfl (Val.addS rfl rfl (by first | decide | omega)) ?_
                first
                  | refine TA.tk 30 2147483647 rfl rfl rfl (Val.addL rfl rfl (by first | omega | (simp <;> omega))) ?_
                  | refine TA.tk 30 2147483647 rfl rfl rfl (Val.addS rfl rfl (by first | decide | omega)) ?_
                refine TA.tk 31 4294967295 rfl rfl rfl (Val.assign rfl) ?_
                refine TA.done (by kernel_rfl) ?_
                refine AtX.join () ?_ (Sub.cons rfl (Sub.cons rfl (Sub.nil _))) (by repeat (first | exact ro_refl | exact ro_pre | refine ro_tail ?_ | refine ro_app ?_))
                trivial
            · skip
              first
                | refine TO.dz 1064302823 (some 37) rfl rfl rfl rfl (Val.does (Val.b2s (l := List.replicate (48 - d.length) 0) rfl us23 ui5 un9 (by simp) (rdS_z (i := 0) rfl))) ?_
                | refine TO.dz 1064302823 (some 37) rfl rfl rfl rfl (Val.does (Val.b2s (l := List.replicate (48 - d.length) 0) rfl us23 ui5 un9 (by simp) (rdS_z (i := 1) rfl))) ?_
                | refine TO.dz 1064302823 (some 37) rfl rfl rfl rfl (Val.does (Val.b2s (l := List.replicate (48 - d.length) 0) rfl us23 ui5 un9 (by simp) (rdS_z (i := 2) rfl))) ?_
                | refine TO.dz 1064302823 (some 37) rfl rfl rfl rfl (Val.does (Val.b2s (l := List.replicate (48 - d.length) 0) rfl us23 ui5 un9 (by simp) (rdS_z (i := 3) rfl))) ?_
              rintro _ _ ⟨rfl, rfl⟩
              refine roK ?_
              refine TA.one 3 (by kernel_rfl) ?_
              refine TO.dz 1064302831 (some 11) rfl rfl rfl rfl (Does.callF go23 rfl (refPut_fn _ _)) ?_
              rintro _ _ ⟨rfl, rfl⟩
              refine roK ?_
              refine TA.tk 4 1064302847 rfl rfl rfl (Val.sliceL (i := 0) (j := 4) rfl un9 rfl rfl rfl rfl (by omega) (by simp)) ?_
              refine TA.one 8 (by kernel_rfl) ?_
              refine TO.dz 1064303103 (some 16) rfl rfl rfl rfl (Does.callF go23 rfl (refPut_fn _ _)) ?_
              rintro _ _ ⟨rfl, rfl⟩
              refine roK ?_
              refine TA.tk 9 1064303615 rfl rfl rfl (Val.sliceL (i := 0) (j := 2) rfl un9 rfl rfl rfl rfl (by omega) (by simp)) ?_
              first
                | refine TA.tk 10 1064304639 rfl rfl rfl (Val.addL rfl rfl (by first | omega | (simp <;> omega))) ?_
                | refine TA.tk 10 1064304639 rfl rfl rfl (Val.addS rfl rfl (by first | decide | omega)) ?_
              first
                | refine TA.tk 20 1065353215 rfl rfl rfl (Val.addL rfl rfl (by first | omega | (simp <;> omega))) ?_
                | refine TA.tk 20 1065353215 rfl rfl rfl (Val.addS rfl rfl (by first | decide | omega)) ?_
              first
                | refine TA.tk 23 1073741823 rfl rfl rfl (Val.addL rfl rfl (by first | omega | (simp <;> omega))) ?_
                | refine TA.tk 23 1073741823 rfl rfl rfl (Val.addS rfl rfl (by first | decide | omega)) ?_
              first
                | refine TA.tk 30 2147483647 rfl rfl rfl (Val.addL rfl rfl (by first | omega | (simp <;> omega))) ?_
                | refine TA.tk 30 2147483647 rfl rfl rfl (Val.addS rfl rfl (by first | decide | omega)) ?_
              refine TA.tk 31 4294967295 rfl rfl rfl (Val.assign rfl) ?_
              refine TA.done (by kernel_rfl) ?_
              refine AtX.join () ?_ (Sub.cons rfl (Sub.cons rfl (Sub.nil _))) (by repeat (first | exact ro_refl | exact ro_pre | refine ro_tail ?_ | refine ro_app ?_))
              trivial
        · skip
          refine TO.dz 526907623 (some 36) rfl rfl rfl rfl (Does.makeSlice (n := 48 - d.length) (c := 48 - d.length) rfl rfl sl23 sz5 by5 ze5 rfl (by omega) (by omega) (by omega) (by omega) (by omega)) ?_
          rintro _ _ ⟨bz, rfl, rfl⟩
          refine roK ?_
          refine TA.three 3 19 29 (by kernel_rfl) ?_ ?_ ?_
          · skip
            refine TO.dz 526907631 (some 11) rfl rfl rfl rfl (Does.callF go23 rfl (refPut_fn _ _)) ?_
            rintro _ _ ⟨rfl, rfl⟩
            refine roK ?_
            refine TA.tk 4 526907647 rfl rfl rfl (Val.sliceL (i := 0) (j := 4) rfl un9 rfl rfl rfl rfl (by omega) (by simp)) ?_
            refine TA.three 8 19 29 (by kernel_rfl) ?_ ?_ ?_
            · skip
              refine TO.dz 526907903 (some 16) rfl rfl rfl rfl (Does.callF go23 rfl (refPut_fn _ _)) ?_
              rintro _ _ ⟨rfl, rfl⟩
              refine roK ?_
              refine TA.tk 9 526908415 rfl rfl rfl (Val.sliceL (i := 0) (j := 2) rfl un9 rfl rfl rfl rfl (by omega) (by simp)) ?_
              first
                | refine TA.tk 10 526909439 rfl rfl rfl (Val.addL rfl rfl (by first | omega | (simp <;> omega))) ?_
                | refine TA.tk 10 526909439 rfl rfl rfl (Val.addS rfl rfl (by first | decide | omega)) ?_
              refine TA.two 19 29 (by kernel_rfl) ?_ ?_
              · skip
                first
                  | refine TO.dz 527433727 (some 27) rfl rfl rfl rfl (Val.does (Val.b2s (l := [Go.X.b8 kd, Go.X.b8 d.length]) rfl us23 ui5 un9 rfl (.some (Rd.get (i := 0) rfl rfl)))) ?_
                  | refine TO.dz 527433727 (some 27) rfl rfl rfl rfl (Val.does (Val.b2s (l := [Go.X.b8 kd, Go.X.b8 d.length]) rfl us23 ui5 un9 rfl (.some (Rd.get (i := 1) rfl rfl)))) ?_
                  | refine TO.dz 527433727 (some 27) rfl rfl rfl rfl (Val.does (Val.b2s (l := [Go.X.b8 kd, Go.X.b8 d.length]) rfl us23 ui5 un9 rfl (.some (Rd.get (i := 2) rfl rfl)))) ?_
                  | refine TO.dz 527433727 (some 27) rfl rfl rfl rfl (Val.does (Val.b2s (l := [Go.X.b8 kd, Go.X.b8 d.length]) rfl us23 ui5 un9 rfl (.some (Rd.get (i := 3) rfl rfl)))) ?_
                rintro _ _ ⟨rfl, rfl⟩
                refine roK ?_
                first
                  | refine TA.tk 20 528482303 rfl rfl rfl (Val.addL rfl rfl (by first | omega | (simp <;> omega))) ?_
                  | refine TA.tk 20 528482303 rfl rfl rfl (Val.addS rfl rfl (by first | decide | omega)) ?_
                first
                  | refine TA.tk 23 536870911 rfl rfl rfl (Val.addL rfl rfl (by first | omega | (simp <;> omega))) ?_
                  | refine TA.tk 23 536870911 rfl rfl rfl (Val.addS rfl rfl (by first | decide | omega)) ?_
                refine TA.one 29 (by kernel_rfl) ?_
                first
                  | refine TO.dz 1073741823 (some 37) rfl rfl rfl rfl (Val.does (Val.b2s (l := List.replicate (48 - d.length) 0) rfl us23 ui5 un9 (by simp) (rdS_z (i := 0) rfl))) ?_
                  | refine TO.dz 1073741823 (some 37) rfl rfl rfl rfl (Val.does (Val.b2s (l := List.replicate (48 - d.length) 0) rfl us23 ui5 un9 (by simp) (rdS_z (i := 1) rfl))) ?_
                  | refine TO.dz 1073741823 (some 37) rfl rfl rfl rfl (Val.does (Val.b2s (l := List.replicate (48 - d.length) 0) rfl us23 ui5 un9 (by simp) (rdS_z (i := 2) rfl))) ?_
                  | refine TO.dz 1073741823 (some 37) rfl rfl rfl rfl (Val.does (Val.b2s (l := List.replicate (48 - d.length) 0) rfl us23 ui5 un9 (by simp) (rdS_z (i := 3) rfl))) ?_
                rintro _ _ ⟨rfl, rfl⟩
                refine roK ?_
                first
                  | refine TA.tk 30 2147483647 rfl rfl rfl (Val.addL rfl rfl (by first | omega | (simp <;> omega))) ?_
                  | refine TA.tk 30 2147483647 rfl rfl rfl (Val.addS rfl rfl (by first | decide | omega)) ?_
                refine TA.tk 31 4294967295 rfl rfl rfl (Val.assign rfl) ?_
                refine TA.done (by kernel_rfl) ?_
                refine AtX.join () ?_ (Sub.cons rfl (Sub.cons rfl (Sub.nil _))) (by repeat (first | exact ro_refl | exact ro_pre | refine ro_tail ?_ | refine ro_app ?_))
                trivial
              · skip
                first
                  | refine TO.dz 1063780351 (some 37) rfl rfl rfl rfl (Val.does (Val.b2s (l := List.replicate (48 - d.length) 0) rfl us23 ui5 un9 (by simp) (rdS_z (i := 0) rfl))) ?_
                  | refine TO.dz 1063780351 (some 37) rfl rfl rfl rfl (Val.does (Val.b2s (l := List.replicate (48 - d.length) 0) rfl us23 ui5 un9 (by simp) (rdS_z (i := 1) rfl))) ?_
                  | refine TO.dz 1063780351 (some 37) rfl rfl rfl rfl (Val.does (Val.b2s (l := List.replicate (48 - d.length) 0) rfl us23 ui5 un9 (by simp) (rdS_z (i := 2) rfl))) ?_
                  | refine TO.dz 1063780351 (some 37) rfl rfl rfl rfl (Val.does (Val.b2s (l := List.replicate (48 - d.length) 0) rfl us23 ui5 un9 (by simp) (rdS_z (i := 3) rfl))) ?_
                rintro _ _ ⟨rfl, rfl⟩
                refine roK ?_
                refine TA.one 19 (by kernel_rfl) ?_
                first
                  | refine TO.dz 1064304639 (some 27) rfl rfl rfl rfl (Val.does (Val.b2s (l := [Go.X.b8 kd, Go.X.b8 d.length]) rfl us23 ui5 un9 rfl (.some (Rd.get (i := 0) rfl rfl)))) ?_
                  | refine TO.dz 1064304639 (some 27) rfl rfl rfl rfl (Val.does (Val.b2s (l := [Go.X.b8 kd, Go.X.b8 d.length]) rfl us23 ui5 un9 rfl (.some (Rd.get (i := 1) rfl rfl)))) ?_
                  | refine TO.dz 1064304639 (some 27) rfl rfl rfl rfl (Val.does (Val.b2s (l := [Go.X.b8 kd, Go.X.b8 d.length]) rfl us23 ui5 un9 rfl (.some (Rd.get (i := 2) rfl rfl)))) ?_
                  | refine TO.dz 1064304639 (some 27) rfl rfl rfl rfl (Val.does (Val.b2s (l := [Go.X.b8 kd, Go.X.b8 d.length]) rfl us23 ui5 un9 rfl (.some (Rd.get (i := 3) rfl rfl)))) ?_
                rintro _ _ ⟨rfl, rfl⟩
                refine roK ?_
                first
                  | refine TA.tk 20 1065353215 rfl rfl rfl (Val.addL rfl rfl (by first | omega | (simp <;> omega))) ?_
                  | refine TA.tk 20 1065353215 rfl rfl rfl (Val.addS rfl rfl (by first | decide | omega)) ?_
                first
                  | refine TA.tk 23 1073741823 rfl rfl rfl (Val.addL rfl rfl (by first | omega | (simp <;> omega))) ?_
                  | refine TA.tk 23 1073741823 rfl rfl rfl (Val.addS rfl rfl (by first | decide | omega)) ?_
                first
                  | refine TA.tk 30 2147483647 rfl rfl rfl (Val.addL rfl rfl (by first | omega | (simp <;> omega))) ?_
                  | refine TA.tk 30 2147483647 rfl rfl rfl (Val.addS rfl rfl (by first | decide | omega)) ?_
                refine TA.tk 31 4294967295 rfl rfl rfl (Val.assign rfl) ?_
                refine TA.done (by kernel_rfl) ?_
                refine AtX.join () ?_ (Sub.cons rfl (Sub.cons rfl (Sub.nil _))) (by repeat (first | exact ro_refl | exact ro_pre | refine ro_tail ?_ | refine ro_app ?_))
                trivial
            · skip
              first
                | refine TO.dz 527431935 (some 27) rfl rfl rfl rfl (Val.does (Val.b2s (l := [Go.X.b8 kd, Go.X.b8 d.length]) rfl us23 ui5 un9 rfl (.some (Rd.get (i := 0) rfl rfl)))) ?_
                | refine TO.dz 527431935 (some 27) rfl rfl rfl rfl (Val.does (Val.b2s (l := [Go.X.b8 kd, Go.X.b8 d.length]) rfl us23 ui5 un9 rfl (.some (Rd.get (i := 1) rfl rfl)))) ?_
                | refine TO.dz 527431935 (some 27) rfl rfl rfl rfl (Val.does (Val.b2s (l := [Go.X.b8 kd, Go.X.b8 d.length]) rfl us23 ui5 un9 rfl (.some (Rd.get (i := 2) rfl rfl)))) ?_
                | refine TO.dz 527431935 (some 27) rfl rfl rfl rfl (Val.does (Val.b2s (l := [Go.X.b8 kd, Go.X.b8 d.length]) rfl us23 ui5 un9 rfl (.some (Rd.get (i := 3) rfl rfl)))) ?_
              rintro _ _ ⟨rfl, rfl⟩
              refine roK ?_
              refine TA.two 8 29 (by kernel_rfl) ?_ ?_
              · skip
                refine TO.dz 527432191 (some 16) rfl rfl rfl rfl (Does.callF go23 rfl (refPut_fn _ _)) ?_
                rintro _ _ ⟨rfl, rfl⟩
                refine roK ?_
                refine TA.tk 9 527432703 rfl rfl rfl (Val.sliceL (i := 0) (j := 2) rfl un9 rfl rfl rfl rfl (by omega) (by simp)) ?_
                first
                  | refine TA.tk 10 527433727 rfl rfl rfl (Val.addL rfl rfl (by first | omega | (simp <;> omega))) ?_
                  | refine TA.tk 10 527433727 rfl rfl rfl (Val.addS rfl rfl (by first | decide | omega)) ?_
                first
                  | refine TA.tk 20 528482303 rfl rfl rfl (Val.addL rfl rfl (by first | omega | (simp <;> omega))) ?_
                  | refine TA.tk 20 528482303 rfl rfl rfl (Val.addS rfl rfl (by first | decide | omega)) ?_
                first
                  | refine TA.tk 23 536870911 rfl rfl rfl (Val.addL rfl rfl (by first | omega | (simp <;> omega))) ?_
                  | refine TA.tk 23 536870911 rfl rfl rfl (Val.addS rfl rfl (by first | decide | omega)) ?_
                refine TA.one 29 (by kernel_rfl) ?_
                first
                  | refine TO.dz 1073741823 (some 37) rfl rfl rfl rfl (Val.does (Val.b2s (l := List.replicate (48 - d.length) 0) rfl us23 ui5 un9 (by simp) (rdS_z (i := 0) rfl))) ?_
                  | refine TO.dz 1073741823 (some 37) rfl rfl rfl rfl (Val.does (Val.b2s (l := List.replicate (48 - d.length) 0) rfl us23 ui5 un9 (by simp) (rdS_z (i := 1) rfl))) ?_
                  | refine TO.dz 1073741823 (some 37) rfl rfl rfl rfl (Val.does (Val.b2s (l := List.replicate (48 - d.length) 0) rfl us23 ui5 un9 (by simp) (rdS_z (i := 2) rfl))) ?_
                  | refine TO.dz 1073741823 (some 37) rfl rfl rfl rfl (Val.does (Val.b2s (l := List.replicate (48 - d.length) 0) rfl us23 ui5 un9 (by simp) (rdS_z (i := 3) rfl))) ?_
                rintro _ _ ⟨rfl, rfl⟩
                refine roK ?_
                first
                  | refine TA.tk 30 2147483647 rfl rfl rfl (Val.addL rfl rfl (by first | omega | (simp <;> omega))) ?_
                  | refine TA.tk 30 2147483647 rfl rfl rfl (Val.addS rfl rfl (by first | decide | omega)) ?_
                refine TA.tk 31 4294967295 rfl rfl rfl (Val.assign rfl) ?_
                refine TA.done (by kernel_rfl) ?_
                refine AtX.join () ?_ (Sub.cons rfl (Sub.cons rfl (Sub.nil _))) (by repeat (first | exact ro_refl | exact ro_pre | refine ro_tail ?_ | refine ro_app ?_))
                trivial
              · skip
                first
                  | refine TO.dz 1064302847 (some 37) rfl rfl rfl rfl (Val.does (Val.b2s (l := List.replicate (48 - d.length) 0) rfl us23 ui5 un9 (by simp) (rdS_z (i := 0) rfl))) ?_
                  | refine TO.dz 1064302847 (some 37) rfl rfl rfl rfl (Val.does (Val.b2s (l := List.replicate (48 - d.length) 0) rfl us23 ui5 un9 (by simp) (rdS_z (i := 1) rfl))) ?_
                  | refine TO.dz 1064302847 (some 37) rfl rfl rfl rfl (Val.does (Val.b2s (l := List.replicate (48 - d.length) 0) rfl us23 ui5 un9 (by simp) (rdS_z (i := 2) rfl))) ?_
                  | refine TO.dz 1064302847 (some 37) rfl rfl rfl rfl (Val.does (Val.b2s (l := List.replicate (48 - d.length) 0) rfl us23 ui5 un9 (by simp) (rdS_z (i := 3) rfl))) ?_
                rintro _ _ ⟨rfl, rfl⟩
                refine roK ?_
                refine TA.one 8 (by kernel_rfl) ?_
                refine TO.dz 1064303103 (some 16) rfl rfl rfl rfl (Does.callF go23 rfl (refPut_fn _ _)) ?_
                rintro _ _ ⟨rfl, rfl⟩
                refine roK ?_
                refine TA.tk 9 1064303615 rfl rfl rfl (Val.sliceL (i := 0) (j := 2) rfl un9 rfl rfl rfl rfl (by omega) (by simp)) ?_
                first
                  | refine TA.tk 10 1064304639 rfl rfl rfl (Val.addL rfl rfl (by first | omega | (simp <;> omega))) ?_
                  | refine TA.tk 10 1064304639 rfl rfl rfl (Val.addS rfl rfl (by first | decide | omega)) ?_
                first
                  | refine TA.tk 20 1065353215 rfl rfl rfl (Val.addL rfl rfl (by first | omega | (simp <;> omega))) ?_
                  | refine TA.tk 20 1065353215 rfl rfl rfl (Val.addS rfl rfl (by first | decide | omega)) ?_
                first
                  | refine TA.tk 23 1073741823 rfl rfl rfl (Val.addL rfl rfl (by first | omega | (simp <;> omega))) ?_
                  | refine TA.tk 23 1073741823 rfl rfl rfl (Val.addS rfl rfl (by first | decide | omega)) ?_
                first
                  | refine TA.tk 30 2147483647 rfl rfl rfl (Val.addL rfl rfl (by first | omega | (simp <;> omega))) ?_
                  | refine TA.tk 30 2147483647 rfl rfl rfl (Val.addS rfl rfl (by first | decide | omega)) ?_
                refine TA.tk 31 4294967295 rfl rfl rfl (Val.assign rfl) ?_
                refine TA.done (by kernel_rfl) ?_
                refine AtX.join () ?_ (Sub.cons rfl (Sub.cons rfl (Sub.nil _))) (by repeat (first | exact ro_refl | exact ro_pre | refine ro_tail ?_ | refine ro_app ?_))
                trivial
            · skip
              first
                | refine TO.dz 1063778559 (some 37) rfl rfl rfl rfl (Val.does (Val.b2s (l := List.replicate (48 - d.length) 0) rfl us23 ui5 un9 (by simp) (rdS_z (i := 0) rfl))) ?_
                | refine TO.dz 1063778559 (some 37) rfl rfl rfl rfl (Val.does (Val.b2s (l := List.replicate (48 - d.length) 0) rfl us23 ui5 un9 (by simp) (rdS_z (i := 1) rfl))) ?_
                | refine TO.dz 1063778559 (some 37) rfl rfl rfl rfl (Val.does (Val.b2s (l := List.replicate (48 - d.length) 0) rfl us23 ui5 un9 (by simp) (rdS_z (i := 2) rfl))) ?_
                | refine TO.dz 1063778559 (some 37) rfl rfl rfl rfl (Val.does (Val.b2s (l := List.replicate (48 - d.length) 0) rfl us23 ui5 un9 (by simp) (rdS_z (i := 3) rfl))) ?_
              rintro _ _ ⟨rfl, rfl⟩
              refine roK ?_
              refine TA.two 8 19 (by kernel_rfl) ?_ ?_
              · skip
                refine TO.dz 1063778815 (some 16) rfl rfl rfl rfl (Does.callF go23 rfl (refPut_fn _ _)) ?_
                rintro _ _ ⟨rfl, rfl⟩
                refine roK ?_
                refine TA.tk 9 1063779327 rfl rfl rfl (Val.sliceL (i := 0) (j := 2) rfl un9 rfl rfl rfl rfl (by omega) (by simp)) ?_
                first
                  | refine TA.tk 10 1063780351 rfl rfl rfl (Val.addL rfl rfl (by first | omega | (simp <;> omega))) ?_
                  | refine TA.tk 10 1063780351 rfl rfl rfl (Val.addS rfl rfl (by first | decide | omega)) ?_
                refine TA.one 19 (by kernel_rfl) ?_
                first
                  | refine TO.dz 1064304639 (some 27) rfl rfl rfl rfl (Val.does (Val.b2s (l := [Go.X.b8 kd, Go.X.b8 d.length]) rfl us23 ui5 un9 rfl (.some (Rd.get (i := 0) rfl rfl)))) ?_
                  | refine TO.dz 1064304639 (some 27) rfl rfl rfl rfl (Val.does (Val.b2s (l := [Go.X.b8 kd, Go.X.b8 d.length]) rfl us23 ui5 un9 rfl (.some (Rd.get (i := 1) rfl rfl)))) ?_
                  | refine TO.dz 1064304639 (some 27) rfl rfl rfl rfl (Val.does (Val.b2s (l := [Go.X.b8 kd, Go.X.b8 d.length]) rfl us23 ui5 un9 rfl (.some (Rd.get (i := 2) rfl rfl)))) ?_
                  | refine TO.dz 1064304639 (some 27) rfl rfl rfl rfl (Val.does (Val.b2s (l := [Go.X.b8 kd, Go.X.b8 d.length]) rfl us23 ui5 un9 rfl (.some (Rd.get (i := 3) rfl rfl)))) ?_
                rintro _ _ ⟨rfl, rfl⟩
                refine roK ?_
                first
                  | refine TA.tk 20 1065353215 rfl rfl rfl (Val.addL rfl rfl (by first | omega | (simp <;> omega))) ?_
                  | refine TA.tk 20 1065353215 rfl rfl rfl (Val.addS rfl rfl (by first | decide | omega)) ?_
                first
                  | refine TA.tk 23 1073741823 rfl rfl rfl (Val.addL rfl rfl (by first | omega | (simp <;> omega))) ?_
                  | refine TA.tk 23 1073741823 rfl rfl rfl (Val.addS rfl rfl (by first | decide | omega)) ?_
                first
                  | refine TA.tk 30 2147483647 rfl rfl rfl (Val.addL rfl rfl (by first | omega | (simp <;> omega))) ?_
                  | refine TA.tk 30 2147483647 rfl rfl rfl (Val.addS rfl rfl (by first | decide | omega)) ?_
                refine TA.tk 31 4294967295 rfl rfl rfl (Val.assign rfl) ?_
                refine TA.done (by kernel_rfl) ?_
                refine AtX.join () ?_ (Sub.cons rfl (Sub.cons rfl (Sub.nil _))) (by repeat (first | exact ro_refl | exact ro_pre | refine ro_tail ?_ | refine ro_app ?_))
                trivial
              · skip
                first
                  | refine TO.dz 1064302847 (some 27) rfl rfl rfl rfl (Val.does (Val.b2s (l := [Go.X.b8 kd, Go.X.b8 d.length]) rfl us23 ui5 un9 rfl (.some (Rd.get (i := 0) rfl rfl)))) ?_
                  | refine TO.dz 1064302847 (some 27) rfl rfl rfl rfl (Val.does (Val.b2s (l := [Go.X.b8 kd, Go.X.b8 d.length]) rfl us23 ui5 un9 rfl (.some (Rd.get (i := 1) rfl rfl)))) ?_
                  | refine TO.dz 1064302847 (some 27) rfl rfl rfl rfl (Val.does (Val.b2s (l := [Go.X.b8 kd, Go.X.b8 d.length]) rfl us23 ui5 un9 rfl (.some (Rd.get (i := 2) rfl rfl)))) ?_
                  | refine TO.dz 1064302847 (some 27) rfl rfl rfl rfl (Val.does (Val.b2s (l := [Go.X.b8 kd, Go.X.b8 d.length]) rfl us23 ui5 un9 rfl (.some (Rd.get (i := 3) rfl rfl)))) ?_
                rintro _ _ ⟨rfl, rfl⟩
                refine roK ?_
                refine TA.one 8 (by kernel_rfl) ?_
                refine TO.dz 1064303103 (some 16) rfl rfl rfl rfl (Does.callF go23 rfl (refPut_fn _ _)) ?_
                rintro _ _ ⟨rfl, rfl⟩
                refine roK ?_
                refine TA.tk 9 1064303615 rfl rfl rfl (Val.sliceL (i := 0) (j := 2) rfl un9 rfl rfl rfl rfl (by omega) (by simp)) ?_
                first
                  | refine TA.tk 10 1064304639 rfl rfl rfl (Val.addL rfl rfl (by first | omega | (simp <;> omega))) ?_
                  | refine TA.tk 10 1064304639 rfl rfl rfl (Val.addS rfl rfl (by first | decide | omega)) ?_
                first
                  | refine TA.tk 20 1065353215 rfl rfl rfl (Val.addL rfl rfl (by first | omega | (simp <;> omega))) ?_
                  | refine TA.tk 20 1065353215 rfl rfl rfl (Val.addS rfl rfl (by first | decide | omega)) ?_
                first
                  | refine TA.tk 23 1073741823 rfl rfl rfl (Val.addL rfl rfl (by first | omega | (simp <;> omega))) ?_
                  | refine TA.tk 23 1073741823 rfl rfl rfl (Val.addS rfl rfl (by first | decide | omega)) ?_
                first
                  | refine TA.tk 30 2147483647 rfl rfl rfl (Val.addL rfl rfl (by first | omega | (simp <;> omega))) ?_
                  | refine TA.tk 30 2147483647 rfl rfl rfl (Val.addS rfl rfl (by first | decide | omega)) ?_
                refine TA.tk 31 4294967295 rfl rfl rfl (Val.assign rfl) ?_
                refine TA.done (by kernel_rfl) ?_
                refine AtX.join () ?_ (Sub.cons rfl (Sub.cons rfl (Sub.nil _))) (by repeat (first | exact ro_refl | exact ro_pre | refine ro_tail ?_ | refine ro_app ?_))
                trivial
          · skip
            first
              | refine TO.dz 527431911 (some 27) rfl rfl rfl rfl (Val.does (Val.b2s (l := [Go.X.b8 kd, Go.X.b8 d.length]) rfl us23 ui5 un9 rfl (.some (Rd.get (i := 0) rfl rfl)))) ?_
              | refine TO.dz 527431911 (some 27) rfl rfl rfl rfl (Val.does (Val.b2s (l := [Go.X.b8 kd, Go.X.b8 d.length]) rfl us23 ui5 un9 rfl (.some (Rd.get (i := 1) rfl rfl)))) ?_
              | refine TO.dz 527431911 (some 27) rfl rfl rfl rfl (Val.does (Val.b2s (l := [Go.X.b8 kd, Go.X.b8 d.length]) rfl us23 ui5 un9 rfl (.some (Rd.get (i := 2) rfl rfl)))) ?_
              | refine TO.dz 527431911 (some 27) rfl rfl rfl rfl (Val.does (Val.b2s (l := [Go.X.b8 kd, Go.X.b8 d.length]) rfl us23 ui5 un9 rfl (.some (Rd.get (i := 3) rfl rfl)))) ?_
            rintro _ _ ⟨rfl, rfl⟩
            refine roK ?_
            refine TA.two 3 29 (by kernel_rfl) ?_ ?_
            · skip
              refine TO.dz 527431919 (some 11) rfl rfl rfl rfl (Does.callF go23 rfl (refPut_fn _ _)) ?_
              rintro _ _ ⟨rfl, rfl⟩
              refine roK ?_
              refine TA.tk 4 527431935 rfl rfl rfl (Val.sliceL (i := 0) (j := 4) rfl un9 rfl rfl rfl rfl (by omega) (by simp)) ?_
              refine TA.two 8 29 (by kernel_rfl) ?_ ?_
              · skip
                refine TO.dz 527432191 (some 16) rfl rfl rfl rfl (Does.callF go23 rfl (refPut_fn _ _)) ?_
                rintro _ _ ⟨rfl, rfl⟩
                refine roK ?_
                refine TA.tk 9 527432703 rfl rfl rfl (Val.sliceL (i := 0) (j := 2) rfl un9 rfl rfl rfl rfl (by omega) (by simp)) ?_
                first
                  | refine TA.tk 10 527433727 rfl rfl rfl (Val.addL rfl rfl (by first | omega | (simp <;> omega))) ?_
                  | refine TA.tk 10 527433727 rfl rfl rfl (Val.addS rfl rfl (by first | decide | omega)) ?_
                first
                  | refine TA.tk 20 528482303 rfl rfl rfl (Val.addL rfl rfl (by first | omega | (simp <;> omega))) ?_
                  | refine TA.tk 20 528482303 rfl rfl rfl (Val.addS rfl rfl (by first | decide | omega)) ?_
                first
                  | refine TA.tk 23 536870911 rfl rfl rfl (Val.addL rfl rfl (by first | omega | (simp <;> omega))) ?_
                  | refine TA.tk 23 536870911 rfl rfl rfl (Val.addS rfl rfl (by first | decide | omega)) ?_
                refine TA.one 29 (by kernel_rfl) ?_
                first
                  | refine TO.dz 1073741823 (some 37) rfl rfl rfl rfl (Val.does (Val.b2s (l := List.replicate (48 - d.length) 0) rfl us23 ui5 un9 (by simp) (rdS_z (i := 0) rfl))) ?_
                  | refine TO.dz 1073741823 (some 37) rfl rfl rfl rfl (Val.does (Val.b2s (l := List.replicate (48 - d.length) 0) rfl us23 ui5 un9 (by simp) (rdS_z (i := 1) rfl))) ?_
                  | refine TO.dz 1073741823 (some 37) rfl rfl rfl rfl (Val.does (Val.b2s (l := List.replicate (48 - d.length) 0) rfl us23 ui5 un9 (by simp) (rdS_z (i := 2) rfl))) ?_
                  | refine TO.dz 1073741823 (some 37) rfl rfl rfl rfl (Val.does (Val.b2s (l := List.replicate (48 - d.length) 0) rfl us23 ui5 un9 (by simp) (rdS_z (i := 3) rfl))) ?_
                rintro _ _ ⟨rfl, rfl⟩
                refine roK ?_
                first
                  | refine TA.tk 30 2147483647 rfl rfl rfl (Val.addL rfl rfl (by first | omega | (simp <;> omega))) ?_
                  | refine TA.tk 30 2147483647 rfl rfl rfl (Val.addS rfl rfl (by first | decide | omega)) ?_
                refine TA.tk 31 4294967295 rfl rfl rfl (Val.assign rfl) ?_
                refine TA.done (by kernel_rfl) ?_
                refine AtX.join () ?_ (Sub.cons rfl (Sub.cons rfl (Sub.nil _))) (by repeat (first | exact ro_refl | exact ro_pre | refine ro_tail ?_ | refine ro_app ?_))
                trivial
              · skip
                first
                  | refine TO.dz 1064302847 (some 37) rfl rfl rfl rfl (Val.does (Val.b2s (l := List.replicate (48 - d.length) 0) rfl us23 ui5 un9 (by simp) (rdS_z (i := 0) rfl))) ?_
                  | refine TO.dz 1064302847 (some 37) rfl rfl rfl rfl (Val.does (Val.b2s (l := List.replicate (48 - d.length) 0) rfl us23 ui5 un9 (by simp) (rdS_z (i := 1) rfl))) ?_
                  | refine TO.dz 1064302847 (some 37) rfl rfl rfl rfl (Val.does (Val.b2s (l := List.replicate (48 - d.length) 0) rfl us23 ui5 un9 (by simp) (rdS_z (i := 2) rfl))) ?_
                  | refine TO.dz 1064302847 (some 37) rfl rfl rfl rfl (Val.does (Val.b2s (l := List.replicate (48 - d.length) 0) rfl us23 ui5 un9 (by simp) (rdS_z (i := 3) rfl))) ?_
                rintro _ _ ⟨rfl, rfl⟩
                refine roK ?_
                refine TA.one 8 (by kernel_rfl) ?_
                refine TO.dz 1064303103 (some 16) rfl rfl rfl rfl (Does.callF go23 rfl (refPut_fn _ _)) ?_
                rintro _ _ ⟨rfl, rfl⟩
                refine roK ?_
                refine TA.tk 9 1064303615 rfl rfl rfl (Val.sliceL (i := 0) (j := 2) rfl un9 rfl rfl rfl rfl (by omega) (by simp)) ?_
                first
                  | refine TA.tk 10 1064304639 rfl rfl rfl (Val.addL rfl rfl (by first | omega | (simp <;> omega))) ?_
                  | refine TA.tk 10 1064304639 rfl rfl rfl (Val.addS rfl rfl (by first | decide | omega)) ?_
                first
                  | refine TA.tk 20 1065353215 rfl rfl rfl (Val.addL rfl rfl (by first | omega | (simp <;> omega))) ?_
                  | refine TA.tk 20 1065353215 rfl rfl rfl (Val.addS rfl rfl (by first | decide | omega)) ?_
                first
                  | refine TA.tk 23 1073741823 rfl rfl rfl (Val.addL rfl rfl (by first | omega | (simp <;> omega))) ?_
                  | refine TA.tk 23 1073741823 rfl rfl rfl (Val.addS rfl rfl (by first | decide | omega)) ?_
                first
                  | refine TA.tk 30 2147483647 rfl rfl rfl (Val.addL rfl rfl (by first | omega | (simp <;> omega))) ?_
                  | refine TA.tk 30 2147483647 rfl rfl rfl (Val.addS rfl rfl (by first | decide | omega)) ?_
                refine TA.tk 31 4294967295 rfl rfl rfl (Val.assign rfl) ?_
                refine TA.done (by kernel_rfl) ?_
                refine AtX.join () ?_ (Sub.cons rfl (Sub.cons rfl (Sub.nil _))) (by repeat (first | exact ro_refl | exact ro_pre | refine ro_tail ?_ | refine ro_app ?_))
                trivial
            · skip
              first
                | refine TO.dz 1064302823 (some 37) rfl rfl rfl rfl (Val.does (Val.b2s (l := List.replicate (48 - d.length) 0) rfl us23 ui5 un9 (by simp) (rdS_z (i := 0) rfl))) ?_
                | refine TO.dz 1064302823 (some 37) rfl rfl rfl rfl (Val.does (Val.b2s (l := List.replicate (48 - d.length) 0) rfl us23 ui5 un9 (by simp) (rdS_z (i := 1) rfl))) ?_
                | refine TO.dz 1064302823 (some 37) rfl rfl rfl rfl (Val.does (Val.b2s (l := List.replicate (48 - d.length) 0) rfl us23 ui5 un9 (by simp) (rdS_z (i := 2) rfl))) ?_
                | refine TO.dz 1064302823 (some 37) rfl rfl rfl rfl (Val.does (Val.b2s (l := List.replicate (48 - d.length) 0) rfl us23 ui5 un9 (by simp) (rdS_z (i := 3) rfl))) ?_
              rintro _ _ ⟨rfl, rfl⟩
              refine roK ?_
              refine TA.one 3 (by kernel_rfl) ?_
              refine TO.dz 1064302831 (some 11) rfl rfl rfl rfl (Does.callF go23 rfl (refPut_fn _ _)) ?_
              rintro _ _ ⟨rfl, rfl⟩
              refine roK ?_
              refine TA.tk 4 1064302847 rfl rfl rfl (Val.sliceL (i := 0) (j := 4) rfl un9 rfl rfl rfl rfl (by omega) (by simp)) ?_
              refine TA.one 8 (by kernel_rfl) ?_
              refine TO.dz 1064303103 (some 16) rfl rfl rfl rfl (Does.callF go23 rfl (refPut_fn _ _)) ?_
              rintro _ _ ⟨rfl, rfl⟩
              refine roK ?_
              refine TA.tk 9 1064303615 rfl rfl rfl (Val.sliceL (i := 0) (j := 2) rfl un9 rfl rfl rfl rfl (by omega) (by simp)) ?_
              first
                | refine TA.tk 10 1064304639 rfl rfl rfl (Val.addL rfl rfl (by first | omega | (simp <;> omega))) ?_
                | refine TA.tk 10 1064304639 rfl rfl rfl (Val.addS rfl rfl (by first | decide | omega)) ?_
              first
                | refine TA.tk 20 1065353215 rfl rfl rfl (Val.addL rfl rfl (by first | omega | (simp <;> omega))) ?_
                | refine TA.tk 20 1065353215 rfl rfl rfl (Val.addS rfl rfl (by first | decide | omega)) ?_
              first
                | refine TA.tk 23 1073741823 rfl rfl rfl (Val.addL rfl rfl (by first | omega | (simp <;> omega))) ?_
                | refine TA.tk 23 1073741823 rfl rfl rfl (Val.addS rfl rfl (by first | decide | omega)) ?_
              first
                | refine TA.tk 30 2147483647 rfl rfl rfl (Val.addL rfl rfl (by first | omega | (simp <;> omega))) ?_
                | refine TA.tk 30 2147483647 rfl rfl rfl (Val.addS rfl rfl (by first | decide | omega)) ?_
              refine TA.tk 31 4294967295 rfl rfl rfl (Val.assign rfl) ?_
              refine TA.done (by kernel_rfl) ?_
              refine AtX.join () ?_ (Sub.cons rfl (Sub.cons rfl (Sub.nil _))) (by repeat (first | exact ro_refl | exact ro_pre | refine ro_tail ?_ | refine ro_app ?_))
              trivial
          · skip
            first
              | refine TO.dz 1063778535 (some 37) rfl rfl rfl rfl (Val.does (Val.b2s (l := List.replicate (48 - d.length) 0) rfl us23 ui5 un9 (by simp) (rdS_z (i := 0) rfl))) ?_
              | refine TO.dz 1063778535 (some 37) rfl rfl rfl rfl (Val.does (Val.b2s (l := List.replicate (48 - d.length) 0) rfl us23 ui5 un9 (by simp) (rdS_z (i := 1) rfl))) ?_
              | refine TO.dz 1063778535 (some 37) rfl rfl rfl rfl (Val.does (Val.b2s (l := List.replicate (48 - d.length) 0) rfl us23 ui5 un9 (by simp) (rdS_z (i := 2) rfl))) ?_
              | refine TO.dz 1063778535 (some 37) rfl rfl rfl rfl (Val.does (Val.b2s (l := List.replicate (48 - d.length) 0) rfl us23 ui5 un9 (by simp) (rdS_z (i := 3) rfl))) ?_
            rintro _ _ ⟨rfl, rfl⟩
            refine roK ?_
            refine TA.two 3 19 (by kernel_rfl) ?_ ?_
            · skip
              refine TO.dz 1063778543 (some 11) rfl rfl rfl rfl (Does.callF go23 rfl (refPut_fn _ _)) ?_
              rintro _ _ ⟨rfl, rfl⟩
              refine roK ?_
              refine TA.tk 4 1063778559 rfl rfl rfl (Val.sliceL (i := 0) (j := 4) rfl un9 rfl rfl rfl rfl (by omega) (by simp)) ?_
              refine TA.two 8 19 (by kernel_rfl) ?_ ?_
              · skip
                refine TO.dz 1063778815 (some 16) rfl rfl rfl rfl (Does.callF go23 rfl (refPut_fn _ _)) ?_
                rintro _ _ ⟨rfl, rfl⟩
                refine roK ?_
                refine TA.tk 9 1063779327 rfl rfl rfl (Val.sliceL (i := 0) (j := 2) rfl un9 rfl rfl rfl rfl (by omega) (by simp)) ?_
                first
                  | refine TA.tk 10 1063780351 rfl rfl rfl (Val.addL rfl rfl (by first | omega | (simp <;> omega))) ?_
                  | refine TA.tk 10 1063780351 rfl rfl rfl (Val.addS rfl rfl (by first | decide | omega)) ?_
                refine TA.one 19 (by kernel_rfl) ?_
                first
                  | refine TO.dz 1064304639 (some 27) rfl rfl rfl rfl (Val.does (Val.b2s (l := [Go.X.b8 kd, Go.X.b8 d.length]) rfl us23 ui5 un9 rfl (.some (Rd.get (i := 0) rfl rfl)))) ?_
                  | refine TO.dz 1064304639 (some 27) rfl rfl rfl rfl (Val.does (Val.b2s (l := [Go.X.b8 kd, Go.X.b8 d.length]) rfl us23 ui5 un9 rfl (.some (Rd.get (i := 1) rfl rfl)))) ?_
                  | refine TO.dz 1064304639 (some 27) rfl rfl rfl rfl (Val.does (Val.b2s (l := [Go.X.b8 kd, Go.X.b8 d.length]) rfl us23 ui5 un9 rfl (.some (Rd.get (i := 2) rfl rfl)))) ?_
                  | refine TO.dz 1064304639 (some 27) rfl rfl rfl rfl (Val.does (Val.b2s (l := [Go.X.b8 kd, Go.X.b8 d.length]) rfl us23 ui5 un9 rfl (.some (Rd.get (i := 3) rfl rfl)))) ?_
                rintro _ _ ⟨rfl, rfl⟩
                refine roK ?_
                first
                  | refine TA.tk 20 1065353215 rfl rfl rfl (Val.addL rfl rfl (by first | omega | (simp <;> omega))) ?_
                  | refine TA.tk 20 1065353215 rfl rfl rfl (Val.addS rfl rfl (by first | decide | omega)) ?_
                first
                  | refine TA.tk 23 1073741823 rfl rfl rfl (Val.addL rfl rfl (by first | omega | (simp <;> omega))) ?_
                  | refine TA.tk 23 1073741823 rfl rfl rfl (Val.addS rfl rfl (by first | decide | omega)) ?_
                first
                  | refine TA.tk 30 2147483647 rfl rfl rfl (Val.addL rfl rfl (by first | omega | (simp <;> omega))) ?_
                  | refine TA.tk 30 2147483647 rfl rfl rfl (Val.addS rfl rfl (by first | decide | omega)) ?_
                refine TA.tk 31 4294967295 rfl rfl rfl (Val.assign rfl) ?_
                refine TA.done (by kernel_rfl) ?_
                refine AtX.join () ?_ (Sub.cons rfl (Sub.cons rfl (Sub.nil _))) (by repeat (first | exact ro_refl | exact ro_pre | refine ro_tail ?_ | refine ro_app ?_))
                trivial
              · skip
                first
                  | refine TO.dz 1064302847 (some 27) rfl rfl rfl rfl (Val.does (Val.b2s (l := [Go.X.b8 kd, Go.X.b8 d.length]) rfl us23 ui5 un9 rfl (.some (Rd.get (i := 0) rfl rfl)))) ?_
                  | refine TO.dz 1064302847 (some 27) rfl rfl rfl rfl (Val.does (Val.b2s (l := [Go.X.b8 kd, Go.X.b8 d.length]) rfl us23 ui5 un9 rfl (.some (Rd.get (i := 1) rfl rfl)))) ?_
                  | refine TO.dz 1064302847 (some 27) rfl rfl rfl rfl (Val.does (Val.b2s (l := [Go.X.b8 kd, Go.X.b8 d.length]) rfl us23 ui5 un9 rfl (.some (Rd.get (i := 2) rfl rfl)))) ?_
                  | refine TO.dz 1064302847 (some 27) rfl rfl rfl rfl (Val.does (Val.b2s (l := [Go.X.b8 kd, Go.X.b8 d.length]) rfl us23 ui5 un9 rfl (.some (Rd.get (i := 3) rfl rfl)))) ?_
                rintro _ _ ⟨rfl, rfl⟩
                refine roK ?_
                refine TA.one 8 (by kernel_rfl) ?_
                refine TO.dz 1064303103 (some 16) rfl rfl rfl rfl (Does.callF go23 rfl (refPut_fn _ _)) ?_
                rintro _ _ ⟨rfl, rfl⟩
                refine roK ?_
                refine TA.tk 9 1064303615 rfl rfl rfl (Val.sliceL (i := 0) (j := 2) rfl un9 rfl rfl rfl rfl (by omega) (by simp)) ?_
                first
                  | refine TA.tk 10 1064304639 rfl rfl rfl (Val.addL rfl rfl (by first | omega | (simp <;> omega))) ?_
                  | refine TA.tk 10 1064304639 rfl rfl rfl (Val.addS rfl rfl (by first | decide | omega)) ?_
                first
                  | refine TA.tk 20 1065353215 rfl rfl rfl (Val.addL rfl rfl (by first | omega | (simp <;> omega))) ?_
                  | refine TA.tk 20 1065353215 rfl rfl rfl (Val.addS rfl rfl (by first | decide | omega)) ?_
                first
                  | refine TA.tk 23 1073741823 rfl rfl rfl (Val.addL rfl rfl (by first | omega | (simp <;> omega))) ?_
                  | refine TA.tk 23 1073741823 rfl rfl rfl (Val.addS rfl rfl (by first | decide | omega)) ?_
                first
                  | refine TA.tk 30 2147483647 rfl rfl rfl (Val.addL rfl rfl (by first | omega | (simp <;> omega))) ?_
                  | refine TA.tk 30 2147483647 rfl rfl rfl (Val.addS rfl rfl (by first | decide | omega)) ?_
                refine TA.tk 31 4294967295 rfl rfl rfl (Val.assign rfl) ?_
                refine TA.done (by kernel_rfl) ?_
                refine AtX.join () ?_ (Sub.cons rfl (Sub.cons rfl (Sub.nil _))) (by repeat (first | exact ro_refl | exact ro_pre | refine ro_tail ?_ | refine ro_app ?_))
                trivial
            · skip
              first
                | refine TO.dz 1064302823 (some 27) rfl rfl rfl rfl (Val.does (Val.b2s (l := [Go.X.b8 kd, Go.X.b8 d.length]) rfl us23 ui5 un9 rfl (.some (Rd.get (i := 0) rfl rfl)))) ?_
                | refine TO.dz 1064302823 (some 27) rfl rfl rfl rfl (Val.does (Val.b2s (l := [Go.X.b8 kd, Go.X.b8 d.length]) rfl us23 ui5 un9 rfl (.some (Rd.get (i := 1) rfl rfl)))) ?_
                | refine TO.dz 1064302823 (some 27) rfl rfl rfl rfl (Val.does (Val.b2s (l := [Go.X.b8 kd, Go.X.b8 d.length]) rfl us23 ui5 un9 rfl (.some (Rd.get (i := 2) rfl rfl)))) ?_
                | refine TO.dz 1064302823 (some 27) rfl rfl rfl rfl (Val.does (Val.b2s (l := [Go.X.b8 kd, Go.X.b8 d.length]) rfl us23 ui5 un9 rfl (.some (Rd.get (i := 3) rfl rfl)))) ?_
              rintro _ _ ⟨rfl, rfl⟩
              refine roK ?_
              refine TA.one 3 (by kernel_rfl) ?_
              refine TO.dz 1064302831 (some 11) rfl rfl rfl rfl (Does.callF go23 rfl (refPut_fn _ _)) ?_
              rintro _ _ ⟨rfl, rfl⟩
              refine roK ?_
              refine TA.tk 4 1064302847 rfl rfl rfl (Val.sliceL (i := 0) (j := 4) rfl un9 rfl rfl rfl rfl (by omega) (by simp)) ?_
              refine TA.one 8 (by kernel_rfl) ?_
              refine TO.dz 1064303103 (some 16) rfl rfl rfl rfl (Does.callF go23 rfl (refPut_fn _ _)) ?_
              rintro _ _ ⟨rfl, rfl⟩
              refine roK ?_
              refine TA.tk 9 1064303615 rfl rfl rfl (Val.sliceL (i := 0) (j := 2) rfl un9 rfl rfl rfl rfl (by omega) (by simp)) ?_
              first
                | refine TA.tk 10 1064304639 rfl rfl rfl (Val.addL rfl rfl (by first | omega | (simp <;> omega))) ?_
                | refine TA.tk 10 1064304639 rfl rfl rfl (Val.addS rfl rfl (by first | decide | omega)) ?_
              first
                | refine TA.tk 20 1065353215 rfl rfl rfl (Val.addL rfl rfl (by first | omega | (simp <;> omega))) ?_
                | refine TA.tk 20 1065353215 rfl rfl rfl (Val.addS rfl rfl (by first | decide | omega)) ?_
              first
                | refine TA.tk 23 1073741823 rfl rfl rfl (Val.addL rfl rfl (by first | omega | (simp <;> omega))) ?_
                | refine TA.tk 23 1073741823 rfl rfl rfl (Val.addS rfl rfl (by first | decide | omega)) ?_
              first
                | refine TA.tk 30 2147483647 rfl rfl rfl (Val.addL rfl rfl (by first | omega | (simp <;> omega))) ?_
                | refine TA.tk 30 2147483647 rfl rfl rfl (Val.addS rfl rfl (by first | decide | omega)) ?_
              refine TA.tk 31 4294967295 rfl rfl rfl (Val.assign rfl) ?_
              refine TA.done (by kernel_rfl) ?_
              refine AtX.join () ?_ (Sub.cons rfl (Sub.cons rfl (Sub.nil _))) (by repeat (first | exact ro_refl | exact ro_pre | refine ro_tail ?_ | refine ro_app ?_))
              trivial
      · skip
        refine TO.dz 526645479 (some 36) rfl rfl rfl rfl (Does.makeSlice (n := 48 - d.length) (c := 48 - d.length) rfl rfl sl23 sz5 by5 ze5 rfl (by omega) (by omega) (by omega) (by omega) (by omega)) ?_
        rintro _ _ ⟨bz, rfl, rfl⟩
        refine roK ?_
        refine TA.three 3 18 29 (by kernel_rfl) ?_ ?_ ?_
        · skip
          refine TO.dz 526645487 (some 11) rfl rfl rfl rfl (Does.callF go23 rfl (refPut_fn _ _)) ?_
          rintro _ _ ⟨rfl, rfl⟩
          refine roK ?_
          refine TA.tk 4 526645503 rfl rfl rfl (Val.sliceL (i := 0) (j := 4) rfl un9 rfl rfl rfl rfl (by omega) (by simp)) ?_
          refine TA.three 8 18 29 (by kernel_rfl) ?_ ?_ ?_
          · skip
            refine TO.dz 526645759 (some 16) rfl rfl rfl rfl (Does.callF go23 rfl (refPut_fn _ _)) ?_
            rintro _ _ ⟨rfl, rfl⟩
            refine roK ?_
            refine TA.tk 9 526646271 rfl rfl rfl (Val.sliceL (i := 0) (j := 2) rfl un9 rfl rfl rfl rfl (by omega) (by simp)) ?_
            first
              | refine TA.tk 10 526647295 rfl rfl rfl (Val.addL rfl rfl (by first | omega | (simp <;> omega))) ?_
              | refine TA.tk 10 526647295 rfl rfl rfl (Val.addS rfl rfl (by first | decide | omega)) ?_
            refine TA.two 18 29 (by kernel_rfl) ?_ ?_
            · skip
              refine TO.dz 526909439 (some 26) rfl rfl rfl rfl (Does.buildSlice sl23 sz5 ze5 (by decide) (by decide) rfl rfl rfl) ?_
              rintro _ _ ⟨b70, rfl, rfl⟩
              refine roK ?_
              refine TA.two 19 29 (by kernel_rfl) ?_ ?_
              · skip
                first
                  | refine TO.dz 527433727 (some 27) rfl rfl rfl rfl (Val.does (Val.b2s (l := [Go.X.b8 kd, Go.X.b8 d.length]) rfl us23 ui5 un9 rfl (.some (Rd.get (i := 0) rfl rfl)))) ?_
                  | refine TO.dz 527433727 (some 27) rfl rfl rfl rfl (Val.does (Val.b2s (l := [Go.X.b8 kd, Go.X.b8 d.length]) rfl us23 ui5 un9 rfl (.some (Rd.get (i := 1) rfl rfl)))) ?_
                  | refine TO.dz 527433727 (some 27) rfl rfl rfl rfl (Val.does (Val.b2s (l := [Go.X.b8 kd, Go.X.b8 d.length]) rfl us23 ui5 un9 rfl (.some (Rd.get (i := 2) rfl rfl)))) ?_
                  | refine TO.dz 527433727 (some 27) rfl rfl rfl rfl (Val.does (Val.b2s (l := [Go.X.b8 kd, Go.X.b8 d.length]) rfl us23 ui5 un9 rfl (.some (Rd.get (i := 3) rfl rfl)))) ?_
                rintro _ _ ⟨rfl, rfl⟩
                refine roK ?_
                first
                  | refine TA.tk 20 528482303 rfl rfl rfl (Val.addL rfl rfl (by first | omega | (simp <;> omega))) ?_
                  | refine TA.tk 20 528482303 rfl rfl rfl (Val.addS rfl rfl (by first | decide | omega)) ?_
                first
                  | refine TA.tk 23 536870911 rfl rfl rfl (Val.addL rfl rfl (by first | omega | (simp <;> omega))) ?_
                  | refine TA.tk 23 536870911 rfl rfl rfl (Val.addS rfl rfl (by first | decide | omega)) ?_
                refine TA.one 29 (by kernel_rfl) ?_
                first
                  | refine TO.dz 1073741823 (some 37) rfl rfl rfl rfl (Val.does (Val.b2s (l := List.replicate (48 - d.length) 0) rfl us23 ui5 un9 (by simp) (rdS_z (i := 0) rfl))) ?_
                  | refine TO.dz 1073741823 (some 37) rfl rfl rfl rfl (Val.does (Val.b2s (l := List.replicate (48 - d.length) 0) rfl us23 ui5 un9 (by simp) (rdS_z (i := 1) rfl))) ?_
                  | refine TO.dz 1073741823 (some 37) rfl rfl rfl rfl (Val.does (Val.b2s (l := List.replicate (48 - d.length) 0) rfl us23 ui5 un9 (by simp) (rdS_z (i := 2) rfl))) ?_
                  | refine TO.dz 1073741823 (some 37) rfl rfl rfl rfl (Val.does (Val.b2s (l := List.replicate (48 - d.length) 0) rfl us23 ui5 un9 (by simp) (rdS_z (i := 3) rfl))) ?_
                rintro _ _ ⟨rfl, rfl⟩
                refine roK ?_
                first
                  | refine TA.tk 30 2147483647 rfl rfl rfl (Val.addL rfl rfl (by first | omega | (simp <;> omega))) ?_
                  | refine TA.tk 30 2147483647 rfl rfl rfl (Val.addS rfl rfl (by first | decide | omega)) ?_
                refine TA.tk 31 4294967295 rfl rfl rfl (Val.assign rfl) ?_
                refine TA.done (by kernel_rfl) ?_
                refine AtX.join () ?_ (Sub.cons rfl (Sub.cons rfl (Sub.nil _))) (by repeat (first | exact ro_refl | exact ro_pre | refine ro_tail ?_ | refine ro_app ?_))
                trivial
              · skip
                first
                  | refine TO.dz 1063780351 (some 37) rfl rfl rfl rfl (Val.does (Val.b2s (l := List.replicate (48 - d.length) 0) rfl us23 ui5 un9 (by simp) (rdS_z (i := 0) rfl))) ?_
                  | refine TO.dz 1063780351 (some 37) rfl rfl rfl rfl (Val.does (Val.b2s (l := List.replicate (48 - d.length) 0) rfl us23 ui5 un9 (by simp) (rdS_z (i := 1) rfl))) ?_
                  | refine TO.dz 1063780351 (some 37) rfl rfl rfl rfl (Val.does (Val.b2s (l := List.replicate (48 - d.length) 0) rfl us23 ui5 un9 (by simp) (rdS_z (i := 2) rfl))) ?_
                  | refine TO.dz 1063780351 (some 37) rfl rfl rfl rfl (Val.does (Val.b2s (l := List.replicate (48 - d.length) 0) rfl us23 ui5 un9 (by simp) (rdS_z (i := 3) rfl))) ?_
                rintro _ _ ⟨rfl, rfl⟩
                refine roK ?_
                refine TA.one 19 (by kernel_rfl) ?_
                first
                  | refine TO.dz 1064304639 (some 27) rfl rfl rfl rfl (Val.does (Val.b2s (l := [Go.X.b8 kd, Go.X.b8 d.length]) rfl us23 ui5 un9 rfl (.some (Rd.get (i := 0) rfl rfl)))) ?_
                  | refine TO.dz 1064304639 (some 27) rfl rfl rfl rfl (Val.does (Val.b2s (l := [Go.X.b8 kd, Go.X.b8 d.length]) rfl us23 ui5 un9 rfl (.some (Rd.get (i := 1) rfl rfl)))) ?_
                  | refine TO.dz 1064304639 (some 27) rfl rfl rfl rfl (Val.does (Val.b2s (l := [Go.X.b8 kd, Go.X.b8 d.length]) rfl us23 ui5 un9 rfl (.some (Rd.get (i := 2) rfl rfl)))) ?_
                  | refine TO.dz 1064304639 (some 27) rfl rfl rfl rfl (Val.does (Val.b2s (l := [Go.X.b8 kd, Go.X.b8 d.length]) rfl us23 ui5 un9 rfl (.some (Rd.get (i := 3) rfl rfl)))) ?_
                rintro _ _ ⟨rfl, rfl⟩
                refine roK ?_
                first
                  | refine TA.tk 20 1065353215 rfl rfl rfl (Val.addL rfl rfl (by first | omega | (simp <;> omega))) ?_
                  | refine TA.tk 20 1065353215 rfl rfl rfl (Val.addS rfl rfl (by first | decide | omega)) ?_
                first
                  | refine TA.tk 23 1073741823 rfl rfl rfl (Val.addL rfl rfl (by first | omega | (simp <;> omega))) ?_
                  | refine TA.tk 23 1073741823 rfl rfl rfl (Val.addS rfl rfl (by first | decide | omega)) ?_
                first
                  | refine TA.tk 30 2147483647 rfl rfl rfl (Val.addL rfl rfl (by first | omega | (simp <;> omega))) ?_
                  | refine TA.tk 30 2147483647 rfl rfl rfl (Val.addS rfl rfl (by first | decide | omega)) ?_
                refine TA.tk 31 4294967295 rfl rfl rfl (Val.assign rfl) ?_
                refine TA.done (by kernel_rfl) ?_
                refine AtX.join () ?_ (Sub.cons rfl (Sub.cons rfl (Sub.nil _))) (by repeat (first | exact ro_refl | exact ro_pre | refine ro_tail ?_ | refine ro_app ?_))
                trivial
            · skip
              first
                | refine TO.dz 1063518207 (some 37) rfl rfl rfl rfl (Val.does (Val.b2s (l := List.replicate (48 - d.length) 0) rfl us23 ui5 un9 (by simp) (rdS_z (i := 0) rfl))) ?_
                | refine TO.dz 1063518207 (some 37) rfl rfl rfl rfl (Val.does (Val.b2s (l := List.replicate (48 - d.length) 0) rfl us23 ui5 un9 (by simp) (rdS_z (i := 1) rfl))) ?_
                | refine TO.dz 1063518207 (some 37) rfl rfl rfl rfl (Val.does (Val.b2s (l := List.replicate (48 - d.length) 0) rfl us23 ui5 un9 (by simp) (rdS_z (i := 2) rfl))) ?_
                | refine TO.dz 1063518207 (some 37) rfl rfl rfl rfl (Val.does (Val.b2s (l := List.replicate (48 - d.length) 0) rfl us23 ui5 un9 (by simp) (rdS_z (i := 3) rfl))) ?_
              rintro _ _ ⟨rfl, rfl⟩
              refine roK ?_
              refine TA.one 18 (by kernel_rfl) ?_
              refine TO.dz 1063780351 (some 26) rfl rfl rfl rfl (Does.buildSlice sl23 sz5 ze5 (by decide) (by decide) rfl rfl rfl) ?_
              rintro _ _ ⟨b71, rfl, rfl⟩
              refine roK ?_
              refine TA.one 19 (by kernel_rfl) ?_
              first
                | refine TO.dz 1064304639 (some 27) rfl rfl rfl rfl (Val.does (Val.b2s (l := [Go.X.b8 kd, Go.X.b8 d.length]) rfl us23 ui5 un9 rfl (.some (Rd.get (i := 0) rfl rfl)))) ?_
                | refine TO.dz 1064304639 (some 27) rfl rfl rfl rfl (Val.does (Val.b2s (l := [Go.X.b8 kd, Go.X.b8 d.length]) rfl us23 ui5 un9 rfl (.some (Rd.get (i := 1) rfl rfl)))) ?_
                | refine TO.dz 1064304639 (some 27) rfl rfl rfl rfl (Val.does (Val.b2s (l := [Go.X.b8 kd, Go.X.b8 d.length]) rfl us23 ui5 un9 rfl (.some (Rd.get (i := 2) rfl rfl)))) ?_
                | refine TO.dz 1064304639 (some 27) rfl rfl rfl rfl (Val.does (Val.b2s (l := [Go.X.b8 kd, Go.X.b8 d.length]) rfl us23 ui5 un9 rfl (.some (Rd.get (i := 3) rfl rfl)))) ?_
              rintro _ _ ⟨rfl, rfl⟩
              refine roK ?_
              first
                | refine TA.tk 20 1065353215 rfl rfl rfl (Val.addL rfl rfl (by first | omega | (simp <;> omega))) ?_
                | refine TA.tk 20 1065353215 rfl rfl rfl (Val.addS rfl rfl (by first | decide | omega)) ?_
              first
                | refine TA.tk 23 1073741823 rfl rfl rfl (Val.addL rfl rfl (by first | omega | (simp <;> omega))) ?_
                | refine TA.tk 23 1073741823 rfl rfl rfl (Val.addS rfl rfl (by first | decide | omega)) ?_
              first
                | refine TA.tk 30 2147483647 rfl rfl rfl (Val.addL rfl rfl (by first | omega | (simp <;> omega))) ?_
                | refine TA.tk 30 2147483647 rfl rfl rfl (Val.addS rfl rfl (by first | decide | omega)) ?_
              refine TA.tk 31 4294967295 rfl rfl rfl (Val.assign rfl) ?_
              refine TA.done (by kernel_rfl) ?_
              refine AtX.join () ?_ (Sub.cons rfl (Sub.cons rfl (Sub.nil _))) (by repeat (first | exact ro_refl | exact ro_pre | refine ro_tail ?_ | refine ro_app ?_))
              trivial
          · skip
            refine TO.dz 526907647 (some 26) rfl rfl rfl rfl (Does.buildSlice sl23 sz5 ze5 (by decide) (by decide) rfl rfl rfl) ?_
            rintro _ _ ⟨b72, rfl, rfl⟩
            refine roK ?_
            refine TA.three 8 19 29 (by kernel_rfl) ?_ ?_ ?_
            · skip
              refine TO.dz 526907903 (some 16) rfl rfl rfl rfl (Does.callF go23 rfl (refPut_fn _ _)) ?_
              rintro _ _ ⟨rfl, rfl⟩
              refine roK ?_
              refine TA.tk 9 526908415 rfl rfl rfl (Val.sliceL (i := 0) (j := 2) rfl un9 rfl rfl rfl rfl (by omega) (by simp)) ?_
              first
                | refine TA.tk 10 526909439 rfl rfl rfl (Val.addL rfl rfl (by first | omega | (simp <;> omega))) ?_
                | refine TA.tk 10 526909439 rfl rfl rfl (Val.addS rfl rfl (by first | decide | omega)) ?_
              refine TA.two 19 29 (by kernel_rfl) ?_ ?_
              · skip
                first
                  | refine TO.dz 527433727 (some 27) rfl rfl rfl rfl (Val.does (Val.b2s (l := [Go.X.b8 kd, Go.X.b8 d.length]) rfl us23 ui5 un9 rfl (.some (Rd.get (i := 0) rfl rfl)))) ?_
                  | refine TO.dz 527433727 (some 27) rfl rfl rfl rfl (Val.does (Val.b2s (l := [Go.X.b8 kd, Go.X.b8 d.length]) rfl us23 ui5 un9 rfl (.some (Rd.get (i := 1) rfl rfl)))) ?_
                  | refine TO.dz 527433727 (some 27) rfl rfl rfl rfl (Val.does (Val.b2s (l := [Go.X.b8 kd, Go.X.b8 d.length]) rfl us23 ui5 un9 rfl (.some (Rd.get (i := 2) rfl rfl)))) ?_
                  | refine TO.dz 527433727 (some 27) rfl rfl rfl rfl (Val.does (Val.b2s (l := [Go.X.b8 kd, Go.X.b8 d.length]) rfl us23 ui5 un9 rfl (.some (Rd.get (i := 3) rfl rfl)))) ?_
                rintro _ _ ⟨rfl, rfl⟩
                refine roK ?_
                first
                  | refine TA.tk 20 528482303 rfl rfl rfl (Val.addL rfl rfl (by first | omega | (simp <;> omega))) ?_
                  | refine TA.tk 20 528482303 rfl rfl rfl (Val.addS rfl rfl (by first | decide | omega)) ?_
                first
                  | refine TA.tk 23 536870911 rfl rfl rfl (Val.addL rfl rfl (by first | omega | (simp <;> omega))) ?_
                  | refine TA.tk 23 536870911 rfl rfl rfl (Val.addS rfl rfl (by first | decide | omega)) ?_
                refine TA.one 29 (by kernel_rfl) ?_
                first
                  | refine TO.dz 1073741823 (some 37) rfl rfl rfl rfl (Val.does (Val.b2s (l := List.replicate (48 - d.length) 0) rfl us23 ui5 un9 (by simp) (rdS_z (i := 0) rfl))) ?_
                  | refine TO.dz 1073741823 (some 37) rfl rfl rfl rfl (Val.does (Val.b2s (l := List.replicate (48 - d.length) 0) rfl us23 ui5 un9 (by simp) (rdS_z (i := 1) rfl))) ?_
                  | refine TO.dz 1073741823 (some 37) rfl rfl rfl rfl (Val.does (Val.b2s (l := List.replicate (48 - d.length) 0) rfl us23 ui5 un9 (by simp) (rdS_z (i := 2) rfl))) ?_
                  | refine TO.dz 1073741823 (some 37) rfl rfl rfl rfl (Val.does (Val.b2s (l := List.replicate (48 - d.length) 0) rfl us23 ui5 un9 (by simp) (rdS_z (i := 3) rfl))) ?_
                rintro _ _ ⟨rfl, rfl⟩
                refine roK ?_
                first
                  | refine TA.tk 30 2147483647 rfl rfl rfl (Val.addL rfl rfl (by first | omega | (simp <;> omega))) ?_
                  | refine TA.tk 30 2147483647 rfl rfl rfl (Val.addS rfl rfl (by first | decide | omega)) ?_
                refine TA.tk 31 4294967295 rfl rfl rfl (Val.assign rfl) ?_
                refine TA.done (by kernel_rfl) ?_
                refine AtX.join () ?_ (Sub.cons rfl (Sub.cons rfl (Sub.nil _))) (by repeat (first | exact ro_refl | exact ro_pre | refine ro_tail ?_ | refine ro_app ?_))
                trivial
              · skip
                first
                  | refine TO.dz 1063780351 (some 37) rfl rfl rfl rfl (Val.does (Val.b2s (l := List.replicate (48 - d.length) 0) rfl us23 ui5 un9 (by simp) (rdS_z (i := 0) rfl))) ?_
                  | refine TO.dz 1063780351 (some 37) rfl rfl rfl rfl (Val.does (Val.b2s (l := List.replicate (48 - d.length) 0) rfl us23 ui5 un9 (by simp) (rdS_z (i := 1) rfl))) ?_
                  | refine TO.dz 1063780351 (some 37) rfl rfl rfl rfl (Val.does (Val.b2s (l := List.replicate (48 - d.length) 0) rfl us23 ui5 un9 (by simp) (rdS_z (i := 2) rfl))) ?_
                  | refine TO.dz 1063780351 (some 37) rfl rfl rfl rfl (Val.does (Val.b2s (l := List.replicate (48 - d.length) 0) rfl us23 ui5 un9 (by simp) (rdS_z (i := 3) rfl))) ?_
                rintro _ _ ⟨rfl, rfl⟩
                refine roK ?_
                refine TA.one 19 (by kernel_rfl) ?_
                first
                  | refine TO.dz 1064304639 (some 27) rfl rfl rfl rfl (Val.does (Val.b2s (l := [Go.X.b8 kd, Go.X.b8 d.length]) rfl us23 ui5 un9 rfl (.some (Rd.get (i := 0) rfl rfl)))) ?_
                  | refine TO.dz 1064304639 (some 27) rfl rfl rfl rfl (Val.does (Val.b2s (l := [Go.X.b8 kd, Go.X.b8 d.length]) rfl us23 ui5 un9 rfl (.some (Rd.get (i := 1) rfl rfl)))) ?_
                  | refine TO.dz 1064304639 (some 27) rfl rfl rfl rfl (Val.does (Val.b2s (l := [Go.X.b8 kd, Go.X.b8 d.length]) rfl us23 ui5 un9 rfl (.some (Rd.get (i := 2) rfl rfl)))) ?_
                  | refine TO.dz 1064304639 (some 27) rfl rfl rfl rfl (Val.does (Val.b2s (l := [Go.X.b8 kd, Go.X.b8 d.length]) rfl us23 ui5 un9 rfl (.some (Rd.get (i := 3) rfl rfl)))) ?_
                rintro _ _ ⟨rfl, rfl⟩
                refine roK ?_
                first
                  | refine TA.tk 20 1065353215 rfl rfl rfl (Val.addL rfl rfl (by first | omega | (simp <;> omega))) ?_
                  | refine TA.tk 20 1065353215 rfl rfl rfl (Val.addS rfl rfl (by first | decide | omega)) ?_
                first
                  | refine TA.tk 23 1073741823 rfl rfl rfl (Val.addL rfl rfl (by first | omega | (simp <;> omega))) ?_
                  | refine TA.tk 23 1073741823 rfl rfl rfl (Val.addS rfl rfl (by first | decide | omega)) ?_
                first
                  | refine TA.tk 30 2147483647 rfl rfl rfl (Val.addL rfl rfl (by first | omega | (simp <;> omega))) ?_
                  | refine TA.tk 30 2147483647 rfl rfl rfl (Val.addS rfl rfl (by first | decide | omega)) ?_
                refine TA.tk 31 4294967295 rfl rfl rfl (Val.assign rfl) ?_
                refine TA.done (by kernel_rfl) ?_
                refine AtX.join () ?_ (Sub.cons rfl (Sub.cons rfl (Sub.nil _))) (by repeat (first | exact ro_refl | exact ro_pre | refine ro_tail ?_ | refine ro_app ?_))
                trivial
            · skip
              first
                | refine TO.dz 527431935 (some 27) rfl rfl rfl rfl (Val.does (Val.b2s (l := [Go.X.b8 kd, Go.X.b8 d.length]) rfl us23 ui5 un9 rfl (.some (Rd.get (i := 0) rfl rfl)))) ?_
                | refine TO.dz 527431935 (some 27) rfl rfl rfl rfl (Val.does (Val.b2s (l := [Go.X.b8 kd, Go.X.b8 d.length]) rfl us23 ui5 un9 rfl (.some (Rd.get (i := 1) rfl rfl)))) ?_
                | refine TO.dz 527431935 (some 27) rfl rfl rfl rfl (Val.does (Val.b2s (l := [Go.X.b8 kd, Go.X.b8 d.length]) rfl us23 ui5 un9 rfl (.some (Rd.get (i := 2) rfl rfl)))) ?_
                | refine TO.dz 527431935 (some 27) rfl rfl rfl rfl (Val.does (Val.b2s (l := [Go.X.b8 kd, Go.X.b8 d.length]) rfl us23 ui5 un9 rfl (.some (Rd.get (i := 3) rfl rfl)))) ?_
              rintro _ _ ⟨rfl, rfl⟩
              refine roK ?_
              refine TA.two 8 29 (by kernel_rfl) ?_ ?_
              · skip
                refine TO.dz 527432191 (some 16) rfl rfl rfl rfl (Does.callF go23 rfl (refPut_fn _ _)) ?_
                rintro _ _ ⟨rfl, rfl⟩
                refine roK ?_
                refine TA.tk 9 527432703 rfl rfl rfl (Val.sliceL (i := 0) (j := 2) rfl un9 rfl rfl rfl rfl (by omega) (by simp)) ?_
                first
                  | refine TA.tk 10 527433727 rfl rfl rfl (Val.addL rfl rfl (by first | omega | (simp <;> omega))) ?_
                  | refine TA.tk 10 527433727 rfl rfl rfl (Val.addS rfl rfl (by first | decide | omega)) ?_
                first
                  | refine TA.tk 20 528482303 rfl rfl rfl (Val.addL rfl rfl (by first | omega | (simp <;> omega))) ?_
                  | refine TA.tk 20 528482303 rfl rfl rfl (Val.addS rfl rfl (by first | decide | omega)) ?_
                first
                  | refine TA.tk 23 536870911 rfl rfl rfl (Val.addL rfl rfl (by first | omega | (simp <;> omega))) ?_
                  | refine TA.tk 23 536870911 rfl rfl rfl (Val.addS rfl rfl (by first | decide | omega)) ?_
                refine TA.one 29 (by kernel_rfl) ?_
                first
                  | refine TO.dz 1073741823 (some 37) rfl rfl rfl rfl (Val.does (Val.b2s (l := List.replicate (48 - d.length) 0) rfl us23 ui5 un9 (by simp) (rdS_z (i := 0) rfl))) ?_
                  | refine TO.dz 1073741823 (some 37) rfl rfl rfl rfl (Val.does (Val.b2s (l := List.replicate (48 - d.length) 0) rfl us23 ui5 un9 (by simp) (rdS_z (i := 1) rfl))) ?_
                  | refine TO.dz 1073741823 (some 37) rfl rfl rfl rfl (Val.does (Val.b2s (l := List.replicate (48 - d.length) 0) rfl us23 ui5 un9 (by simp) (rdS_z (i := 2) rfl))) ?_
                  | refine TO.dz 1073741823 (some 37) rfl rfl rfl rfl (Val.does (Val.b2s (l := List.replicate (48 - d.length) 0) rfl us23 ui5 un9 (by simp) (rdS_z (i := 3) rfl))) ?_
                rintro _ _ ⟨rfl, rfl⟩
                refine roK ?_
                first
                  | refine TA.tk 30 2147483647 rfl rfl rfl (Val.addL rfl rfl (by first | omega | (simp <;> omega))) ?_
                  | refine TA.tk 30 2147483647 rfl rfl rfl (Val.addS rfl rfl (by first | decide | omega)) ?_
                refine TA.tk 31 4294967295 rfl rfl rfl (Val.assign rfl) ?_
                refine TA.done (by kernel_rfl) ?_
                refine AtX.join () ?_ (Sub.cons rfl (Sub.cons rfl (Sub.nil _))) (by repeat (first | exact ro_refl | exact ro_pre | refine ro_tail ?_ | refine ro_app ?_))
                trivial
              · skip
                first
                  | refine TO.dz 1064302847 (some 37) rfl rfl rfl rfl (Val.does (Val.b2s (l := List.replicate (48 - d.length) 0) rfl us23 ui5 un9 (by simp) (rdS_z (i := 0) rfl))) ?_
                  | refine TO.dz 1064302847 (some 37) rfl rfl rfl rfl (Val.does (Val.b2s (l := List.replicate (48 - d.length) 0) rfl us23 ui5 un9 (by simp) (rdS_z (i := 1) rfl))) ?_
                  | refine TO.dz 1064302847 (some 37) rfl rfl rfl rfl (Val.does (Val.b2s (l := List.replicate (48 - d.length) 0) rfl us23 ui5 un9 (by simp) (rdS_z (i := 2) rfl))) ?_
                  | refine TO.dz 1064302847 (some 37) rfl rfl rfl rfl (Val.does (Val.b2s (l := List.replicate (48 - d.length) 0) rfl us23 ui5 un9 (by simp) (rdS_z (i := 3) rfl))) ?_
                rintro _ _ ⟨rfl, rfl⟩
                refine roK ?_
                refine TA.one 8 (by kernel_rfl) ?_
                refine TO.dz 1064303103 (some 16) rfl rfl rfl rfl (Does.callF go23 rfl (refPut_fn _ _)) ?_
                rintro _ _ ⟨rfl, rfl⟩
                refine roK ?_
                refine TA.tk 9 1064303615 rfl rfl rfl (Val.sliceL (i := 0) (j := 2) rfl un9 rfl rfl rfl rfl (by omega) (by simp)) ?_
                first
                  | refine TA.tk 10 1064304639 rfl rfl rfl (Val.addL rfl rfl (by first | omega | (simp <;> omega))) ?_
                  | refine TA.tk 10 1064304639 rfl rfl rfl (Val.addS rfl rfl (by first | decide | omega)) ?_
                first
                  | refine TA.tk 20 1065353215 rfl rfl rfl (Val.addL rfl rfl (by first | omega | (simp <;> omega))) ?_
                  | refine TA.tk 20 1065353215 rfl rfl rfl (Val.addS rfl rfl (by first | decide | omega)) ?_
                first
                  | refine TA.tk 23 1073741823 rfl rfl rfl (Val.addL rfl rfl (by first | omega | (simp <;> omega))) ?_
                  | refine TA.tk 23 1073741823 rfl rfl rfl (Val.addS rfl rfl (by first | decide | omega)) ?_
                first
                  | refine TA.tk 30 2147483647 rfl rfl rfl (Val.addL rfl rfl (by first | omega | (simp <;> omega))) ?_
                  | refine TA.tk 30 2147483647 rfl rfl rfl (Val.addS rfl rfl (by first | decide | omega)) ?_
                refine TA.tk 31 4294967295 rfl rfl rfl (Val.assign rfl) ?_
                refine TA.done (by kernel_rfl) ?_
                refine AtX.join () ?_ (Sub.cons rfl (Sub.cons rfl (Sub.nil _))) (by repeat (first | exact ro_refl | exact ro_pre | refine ro_tail ?_ | refine ro_app ?_))
                trivial
            · skip
              first
                | refine TO.dz 1063778559 (some 37) rfl rfl rfl rfl (Val.does (Val.b2s (l := List.replicate (48 - d.length) 0) rfl us23 ui5 un9 (by simp) (rdS_z (i := 0) rfl))) ?_
                | refine TO.dz 1063778559 (some 37) rfl rfl rfl rfl (Val.does (Val.b2s (l := List.replicate (48 - d.length) 0) rfl us23 ui5 un9 (by simp) (rdS_z (i := 1) rfl))) ?_
                | refine TO.dz 1063778559 (some 37) rfl rfl rfl rfl (Val.does (Val.b2s (l := List.replicate (48 - d.length) 0) rfl us23 ui5 un9 (by simp) (rdS_z (i := 2) rfl))) ?_
                | refine TO.dz 1063778559 (some 37) rfl rfl rfl rfl (Val.does (Val.b2s (l := List.replicate (48 - d.length) 0) rfl us23 ui5 un9 (by simp) (rdS_z (i := 3) rfl))) ?_
              rintro _ _ ⟨rfl, rfl⟩
              refine roK ?_
              refine TA.two 8 19 (by kernel_rfl) ?_ ?_
              · skip
                refine TO.dz 1063778815 (some 16) rfl rfl rfl rfl (Does.callF go23 rfl (refPut_fn _ _)) ?_
                rintro _ _ ⟨rfl, rfl⟩
                refine roK ?_
                refine TA.tk 9 1063779327 rfl rfl rfl (Val.sliceL (i := 0) (j := 2) rfl un9 rfl rfl rfl rfl (by omega) (by simp)) ?_
                first
                  | refine TA.tk 10 1063780351 rfl rfl rfl (Val.addL rfl rfl (by first | omega | (simp <;> omega))) ?_
                  | refine TA.tk 10 1063780351 rfl rfl rfl (Val.addS rfl rfl (by first | decide | omega)) ?_
                refine TA.one 19 (by kernel_rfl) ?_
                first
                  | refine TO.dz 1064304639 (some 27) rfl rfl rfl rfl (Val.does (Val.b2s (l := [Go.X.b8 kd, Go.X.b8 d.length]) rfl us23 ui5 un9 rfl (.some (Rd.get (i := 0) rfl rfl)))) ?_
                  | refine TO.dz 1064304639 (some 27) rfl rfl rfl rfl (Val.does (Val.b2s (l := [Go.X.b8 kd, Go.X.b8 d.length]) rfl us23 ui5 un9 rfl (.some (Rd.get (i := 1) rfl rfl)))) ?_
                  | refine TO.dz 1064304639 (some 27) rfl rfl rfl rfl (Val.does (Val.b2s (l := [Go.X.b8 kd, Go.X.b8 d.length]) rfl us23 ui5 un9 rfl (.some (Rd.get (i := 2) rfl rfl)))) ?_
                  | refine TO.dz 1064304639 (some 27) rfl rfl rfl rfl (Val.does (Val.b2s (l := [Go.X.b8 kd, Go.X.b8 d.length]) rfl us23 ui5 un9 rfl (.some (Rd.get (i := 3) rfl rfl)))) ?_
                rintro _ _ ⟨rfl, rfl⟩
                refine roK ?_
                first
                  | refine TA.tk 20 1065353215 rfl rfl rfl (Val.addL rfl rfl (by first | omega | (simp <;> omega))) ?_
                  | refine TA.tk 20 1065353215 rfl rfl rfl (Val.addS rfl rfl (by first | decide | omega)) ?_
                first
                  | refine TA.tk 23 1073741823 rfl rfl rfl (Val.addL rfl rfl (by first | omega | (simp <;> omega))) ?_
                  | refine TA.tk 23 1073741823 rfl rfl rfl (Val.addS rfl rfl (by first | decide | omega)) ?_
                first
                  | refine TA.tk 30 2147483647 rfl rfl rfl (Val.addL rfl rfl (by first | omega | (simp <;> omega))) ?_
                  | refine TA.tk 30 2147483647 rfl rfl rfl (Val.addS rfl rfl (by first | decide | omega)) ?_
                refine TA.tk 31 4294967295 rfl rfl rfl (Val.assign rfl) ?_
                refine TA.done (by kernel_rfl) ?_
                refine AtX.join () ?_ (Sub.cons rfl (Sub.cons rfl (Sub.nil _))) (by repeat (first | exact ro_refl | exact ro_pre | refine ro_tail ?_ | refine ro_app ?_))
                trivial
              · skip
                first
                  | refine TO.dz 1064302847 (some 27) rfl rfl rfl rfl (Val.does (Val.b2s (l := [Go.X.b8 kd, Go.X.b8 d.length]) rfl us23 ui5 un9 rfl (.some (Rd.get (i := 0) rfl rfl)))) ?_
                  | refine TO.dz 1064302847 (some 27) rfl rfl rfl rfl (Val.does (Val.b2s (l := [Go.X.b8 kd, Go.X.b8 d.length]) rfl us23 ui5 un9 rfl (.some (Rd.get (i := 1) rfl rfl)))) ?_
                  | refine TO.dz 1064302847 (some 27) rfl rfl rfl rfl (Val.does (Val.b2s (l := [Go.X.b8 kd, Go.X.b8 d.length]) rfl us23 ui5 un9 rfl (.some (Rd.get (i := 2) rfl rfl)))) ?_
                  | refine TO.dz 1064302847 (some 27) rfl rfl rfl rfl (Val.does (Val.b2s (l := [Go.X.b8 kd, Go.X.b8 d.length]) rfl us23 ui5 un9 rfl (.some (Rd.get (i := 3) rfl rfl)))) ?_
                rintro _ _ ⟨rfl, rfl⟩
                refine roK ?_
                refine TA.one 8 (by kernel_rfl) ?_
                refine TO.dz 1064303103 (some 16) rfl rfl rfl rfl (Does.callF go23 rfl (refPut_fn _ _)) ?_
                rintro _ _ ⟨rfl, rfl⟩
                refine roK ?_
                refine TA.tk 9 1064303615 rfl rfl rfl (Val.sliceL (i := 0) (j := 2) rfl un9 rfl rfl rfl rfl (by omega) (by simp)) ?_
                first
                  | refine TA.tk 10 1064304639 rfl rfl rfl (Val.addL rfl rfl (by first | omega | (simp <;> omega))) ?_
                  | refine TA.tk 10 1064304639 rfl rfl rfl (Val.addS rfl rfl (by first | decide | omega)) ?_
                first
                  | refine TA.tk 20 1065353215 rfl rfl rfl (Val.addL rfl rfl (by first | omega | (simp <;> omega))) ?_
                  | refine TA.tk 20 1065353215 rfl rfl rfl (Val.addS rfl rfl (by first | decide | omega)) ?_
                first
                  | refine TA.tk 23 1073741823 rfl rfl rfl (Val.addL rfl rfl (by first | omega | (simp <;> omega))) ?_
                  | refine TA.tk 23 1073741823 rfl rfl rfl (Val.addS rfl rfl (by first | decide | omega)) ?_
                first
                  | refine TA.tk 30 2147483647 rfl rfl rfl (Val.addL rfl rfl (by first | omega | (simp <;> omega))) ?_
                  | refine TA.tk 30 2147483647 rfl rfl rfl (Val.addS rfl rfl (by first | decide | omega)) ?_
                refine TA.tk 31 4294967295 rfl rfl rfl (Val.assign rfl) ?_
                refine TA.done (by kernel_rfl) ?_
                refine AtX.join () ?_ (Sub.cons rfl (Sub.cons rfl (Sub.nil _))) (by repeat (first | exact ro_refl | exact ro_pre | refine ro_tail ?_ | refine ro_app ?_))
                trivial
          · skip
            first
              | refine TO.dz 1063516415 (some 37) rfl rfl rfl rfl (Val.does (Val.b2s (l := List.replicate (48 - d.length) 0) rfl us23 ui5 un9 (by simp) (rdS_z (i := 0) rfl))) ?_
              | refine TO.dz 1063516415 (some 37) rfl rfl rfl rfl (Val.does (Val.b2s (l := List.replicate (48 - d.length) 0) rfl us23 ui5 un9 (by simp) (rdS_z (i := 1) rfl))) ?_
              | refine TO.dz 1063516415 (some 37) rfl rfl rfl rfl (Val.does (Val.b2s (l := List.replicate (48 - d.length) 0) rfl us23 ui5 un9 (by simp) (rdS_z (i := 2) rfl))) ?_
              | refine TO.dz 1063516415 (some 37) rfl rfl rfl rfl (Val.does (Val.b2s (l := List.replicate (48 - d.length) 0) rfl us23 ui5 un9 (by simp) (rdS_z (i := 3) rfl))) ?_
            rintro _ _ ⟨rfl, rfl⟩
            refine roK ?_
            refine TA.two 8 18 (by kernel_rfl) ?_ ?_
            · skip
              refine TO.dz 1063516671 (some 16) rfl rfl rfl rfl (Does.callF go23 rfl (refPut_fn _ _)) ?_
              rintro _ _ ⟨rfl, rfl⟩
              refine roK ?_
              refine TA.tk 9 1063517183 rfl rfl rfl (Val.sliceL (i := 0) (j := 2) rfl un9 rfl rfl rfl rfl (by omega) (by simp)) ?_
              first
                | refine TA.tk 10 1063518207 rfl rfl rfl (Val.addL rfl rfl (by first | omega | (simp <;> omega))) ?_
                | refine TA.tk 10 1063518207 rfl rfl rfl (Val.addS rfl rfl (by first | decide | omega)) ?_
              refine TA.one 18 (by kernel_rfl) ?_
              refine TO.dz 1063780351 (some 26) rfl rfl rfl rfl (Does.buildSlice sl23 sz5 ze5 (by decide) (by decide) rfl rfl rfl) ?_
              rintro _ _ ⟨b79, rfl, rfl⟩
              refine roK ?_
              refine TA.one 19 (by kernel_rfl) ?_
              first
                | refine TO.dz 1064304639 (some 27) rfl rfl rfl rfl (Val.does (Val.b2s (l := [Go.X.b8 kd, Go.X.b8 d.length]) rfl us23 ui5 un9 rfl (.some (Rd.get (i := 0) rfl rfl)))) ?_
                | refine TO.dz 1064304639 (some 27) rfl rfl rfl rfl (Val.does (Val.b2s (l := [Go.X.b8 kd, Go.X.b8 d.length]) rfl us23 ui5 un9 rfl (.some (Rd.get (i := 1) rfl rfl)))) ?_
                | refine TO.dz 1064304639 (some 27) rfl rfl rfl rfl (Val.does (Val.b2s (l := [Go.X.b8 kd, Go.X.b8 d.length]) rfl us23 ui5 un9 rfl (.some (Rd.get (i := 2) rfl rfl)))) ?_
                | refine TO.dz 1064304639 (some 27) rfl rfl rfl rfl (Val.does (Val.b2s (l := [Go.X.b8 kd, Go.X.b8 d.length]) rfl us23 ui5 un9 rfl (.some (Rd.get (i := 3) rfl rfl)))) ?_
              rintro _ _ ⟨rfl, rfl⟩
              refine roK ?_
              first
                | refine TA.tk 20 1065353215 rfl rfl rfl (Val.addL rfl rfl (by first | omega | (simp <;> omega))) ?_
                | refine TA.tk 20 1065353215 rfl rfl rfl (Val.addS rfl rfl (by first | decide | omega)) ?_
              first
                | refine TA.tk 23 1073741823 rfl rfl rfl (Val.addL rfl rfl (by first | omega | (simp <;> omega))) ?_
                | refine TA.tk 23 1073741823 rfl rfl rfl (Val.addS rfl rfl (by first | decide | omega)) ?_
              first
                | refine TA.tk 30 2147483647 rfl rfl rfl (Val.addL rfl rfl (by first | omega | (simp <;> omega))) ?_
                | refine TA.tk 30 2147483647 rfl rfl rfl (Val.addS rfl rfl (by first | decide | omega)) ?_
              refine TA.tk 31 4294967295 rfl rfl rfl (Val.assign rfl) ?_
              refine TA.done (by kernel_rfl) ?_
              refine AtX.join () ?_ (Sub.cons rfl (Sub.cons rfl (Sub.nil _))) (by repeat (first | exact ro_refl | exact ro_pre | refine ro_tail ?_ | refine ro_app ?_))
              trivial
            · skip
              refine TO.dz 1063778559 (some 26) rfl rfl rfl rfl (Does.buildSlice sl23 sz5 ze5 (by decide) (by decide) rfl rfl rfl) ?_
              rintro _ _ ⟨b80, rfl, rfl⟩
              refine roK ?_
              refine TA.two 8 19 (by kernel_rfl) ?_ ?_
              · skip
                refine TO.dz 1063778815 (some 16) rfl rfl rfl rfl (Does.callF go23 rfl (refPut_fn _ _)) ?_
                rintro _ _ ⟨rfl, rfl⟩
                refine roK ?_
                refine TA.tk 9 1063779327 rfl rfl rfl (Val.sliceL (i := 0) (j := 2) rfl un9 rfl rfl rfl rfl (by omega) (by simp)) ?_
                first
                  | refine TA.tk 10 1063780351 rfl rfl rfl (Val.addL rfl rfl (by first | omega | (simp <;> omega))) ?_
                  | refine TA.tk 10 1063780351 rfl rfl rfl (Val.addS rfl rfl (by first | decide | omega)) ?_
                refine TA.one 19 (by kernel_rfl) ?_
                first
                  | refine TO.dz 1064304639 (some 27) rfl rfl rfl rfl (Val.does (Val.b2s (l := [Go.X.b8 kd, Go.X.b8 d.length]) rfl us23 ui5 un9 rfl (.some (Rd.get (i := 0) rfl rfl)))) ?_
                  | refine TO.dz 1064304639 (some 27) rfl rfl rfl rfl (Val.does (Val.b2s (l := [Go.X.b8 kd, Go.X.b8 d.length]) rfl us23 ui5 un9 rfl (.some (Rd.get (i := 1) rfl rfl)))) ?_
                  | refine TO.dz 1064304639 (some 27) rfl rfl rfl rfl (Val.does (Val.b2s (l := [Go.X.b8 kd, Go.X.b8 d.length]) rfl us23 ui5 un9 rfl (.some (Rd.get (i := 2) rfl rfl)))) ?_
                  | refine TO.dz 1064304639 (some 27) rfl rfl rfl rfl (Val.does (Val.b2s (l := [Go.X.b8 kd, Go.X.b8 d.length]) rfl us23 ui5 un9 rfl (.some (Rd.get (i := 3) rfl rfl)))) ?_
                rintro _ _ ⟨rfl, rfl⟩
                refine roK ?_
                first
                  | refine TA.tk 20 1065353215 rfl rfl rfl (Val.addL rfl rfl (by first | omega | (simp <;> omega))) ?_
                  | refine TA.tk 20 1065353215 rfl rfl rfl (Val.addS rfl rfl (by first | decide | omega)) ?_
                first
                  | refine TA.tk 23 1073741823 rfl rfl rfl (Val.addL rfl rfl (by first | omega | (simp <;> omega))) ?_
                  | refine TA.tk 23 1073741823 rfl rfl rfl (Val.addS rfl rfl (by first | decide | omega)) ?_
                first
                  | refine TA.tk 30 2147483647 rfl rfl rfl (Val.addL rfl rfl (by first | omega | (simp <;> omega))) ?_
                  | refine TA.tk 30 2147483647 rfl rfl rfl (Val.addS rfl rfl (by first | decide | omega)) ?_
                refine TA.tk 31 4294967295 rfl rfl rfl (Val.assign rfl) ?_
                refine TA.done (by kernel_rfl) ?_
                refine AtX.join () ?_ (Sub.cons rfl (Sub.cons rfl (Sub.nil _))) (by repeat (first | exact ro_refl | exact ro_pre | refine ro_tail ?_ | refine ro_app ?_))
                trivial
              · skip
                first
                  | refine TO.dz 1064302847 (some 27) rfl rfl rfl rfl (Val.does (Val.b2s (l := [Go.X.b8 kd, Go.X.b8 d.length]) rfl us23 ui5 un9 rfl (.some (Rd.get (i := 0) rfl rfl)))) ?_
                  | refine TO.dz 1064302847 (some 27) rfl rfl rfl rfl (Val.does (Val.b2s (l := [Go.X.b8 kd, Go.X.b8 d.length]) rfl us23 ui5 un9 rfl (.some (Rd.get (i := 1) rfl rfl)))) ?_
                  | refine TO.dz 1064302847 (some 27) rfl rfl rfl rfl (Val.does (Val.b2s (l := [Go.X.b8 kd, Go.X.b8 d.length]) rfl us23 ui5 un9 rfl (.some (Rd.get (i := 2) rfl rfl)))) ?_
                  | refine TO.dz 1064302847 (some 27) rfl rfl rfl rfl (Val.does (Val.b2s (l := [Go.X.b8 kd, Go.X.b8 d.length]) rfl us23 ui5 un9 rfl (.some (Rd.get (i := 3) rfl rfl)))) ?_
                rintro _ _ ⟨rfl, rfl⟩
                refine roK ?_
                refine TA.one 8 (by kernel_rfl) ?_
                refine TO.dz 1064303103 (some 16) rfl rfl rfl rfl (Does.callF go23 rfl (refPut_fn _ _)) ?_
                rintro _ _ ⟨rfl, rfl⟩
                refine roK ?_
                refine TA.tk 9 1064303615 rfl rfl rfl (Val.sliceL (i := 0) (j := 2) rfl un9 rfl rfl rfl rfl (by omega) (by simp)) ?_
                first
                  | refine TA.tk 10 1064304639 rfl rfl rfl (Val.addL rfl rfl (by first | omega | (simp <;> omega))) ?_
                  | refine TA.tk 10 1064304639 rfl rfl rfl (Val.addS rfl rfl (by first | decide | omega)) ?_
                first
                  | refine TA.tk 20 1065353215 rfl rfl rfl (Val.addL rfl rfl (by first | omega | (simp <;> omega))) ?_
                  | refine TA.tk 20 1065353215 rfl rfl rfl (Val.addS rfl rfl (by first | decide | omega)) ?_
                first
                  | refine TA.tk 23 1073741823 rfl rfl rfl (Val.addL rfl rfl (by first | omega | (simp <;> omega))) ?_
                  | refine TA.tk 23 1073741823 rfl rfl rfl (Val.addS rfl rfl (by first | decide | omega)) ?_
                first
                  | refine TA.tk 30 2147483647 rfl rfl rfl (Val.addL rfl rfl (by first | omega | (simp <;> omega))) ?_
                  | refine TA.tk 30 2147483647 rfl rfl rfl (Val.addS rfl rfl (by first | decide | omega)) ?_
                refine TA.tk 31 4294967295 rfl rfl rfl (Val.assign rfl) ?_
                refine TA.done (by kernel_rfl) ?_
                refine AtX.join () ?_ (Sub.cons rfl (Sub.cons rfl (Sub.nil _))) (by repeat (first | exact ro_refl | exact ro_pre | refine ro_tail ?_ | refine ro_app ?_))
                trivial
        · skip
          refine TO.dz 526907623 (some 26) rfl rfl rfl rfl (Does.buildSlice sl23 sz5 ze5 (by decide) (by decide) rfl rfl rfl) ?_
          rintro _ _ ⟨b83, rfl, rfl⟩
          refine roK ?_
          refine TA.three 3 19 29 (by kernel_rfl) ?_ ?_ ?_
          · skip
            refine TO.dz 526907631 (some 11) rfl rfl rfl rfl (Does.callF go23 rfl (refPut_fn _ _)) ?_
            rintro _ _ ⟨rfl, rfl⟩
            refine roK ?_
            refine TA.tk 4 526907647 rfl rfl rfl (Val.sliceL (i := 0) (j := 4) rfl un9 rfl rfl rfl rfl (by omega) (by simp)) ?_
            refine TA.three 8 19 29 (by kernel_rfl) ?_ ?_ ?_
            · skip
              refine TO.dz 526907903 (some 16) rfl rfl rfl rfl (Does.callF go23 rfl (refPut_fn _ _)) ?_
              rintro _ _ ⟨rfl, rfl⟩
              refine roK ?_
              refine TA.tk 9 526908415 rfl rfl rfl (Val.sliceL (i := 0) (j := 2) rfl un9 rfl rfl rfl rfl (by omega) (by simp)) ?_
              first
                | refine TA.tk 10 526909439 rfl rfl rfl (Val.addL rfl rfl (by first | omega | (simp <;> omega))) ?_
                | refine TA.tk 10 526909439 rfl rfl rfl (Val.addS rfl rfl (by first | decide | omega)) ?_
              refine TA.two 19 29 (by kernel_rfl) ?_ ?_
              · skip
                first
                  | refine TO.dz 527433727 (some 27) rfl rfl rfl rfl (Val.does (Val.b2s (l := [Go.X.b8 kd, Go.X.b8 d.length]) rfl us23 ui5 un9 rfl (.some (Rd.get (i := 0) rfl rfl)))) ?_
                  | refine TO.dz 527433727 (some 27) rfl rfl rfl rfl (Val.does (Val.b2s (l := [Go.X.b8 kd, Go.X.b8 d.length]) rfl us23 ui5 un9 rfl (.some (Rd.get (i := 1) rfl rfl)))) ?_
                  | refine TO.dz 527433727 (some 27) rfl rfl rfl rfl (Val.does (Val.b2s (l := [Go.X.b8 kd, Go.X.b8 d.length]) rfl us23 ui5 un9 rfl (.some (Rd.get (i := 2) rfl rfl)))) ?_
                  | refine TO.dz 527433727 (some 27) rfl rfl rfl rfl (Val.does (Val.b2s (l := [Go.X.b8 kd, Go.X.b8 d.length]) rfl us23 ui5 un9 rfl (.some (Rd.get (i := 3) rfl rfl)))) ?_
                rintro _ _ ⟨rfl, rfl⟩
                refine roK ?_
                first
                  | refine TA.tk 20 528482303 rfl rfl rfl (Val.addL rfl rfl (by first | omega | (simp <;> omega))) ?_
                  | refine TA.tk 20 528482303 rfl rfl rfl (Val.addS rfl rfl (by first | decide | omega)) ?_
                first
                  | refine TA.tk 23 536870911 rfl rfl rfl (Val.addL rfl rfl (by first | omega | (simp <;> omega))) ?_
                  | refine TA.tk 23 536870911 rfl rfl rfl (Val.addS rfl rfl (by first | decide | omega)) ?_
                refine TA.one 29 (by kernel_rfl) ?_
                first
                  | refine TO.dz 1073741823 (some 37) rfl rfl rfl rfl (Val.does (Val.b2s (l := List.replicate (48 - d.length) 0) rfl us23 ui5 un9 (by simp) (rdS_z (i := 0) rfl))) ?_
                  | refine TO.dz 1073741823 (some 37) rfl rfl rfl rfl (Val.does (Val.b2s (l := List.replicate (48 - d.length) 0) rfl us23 ui5 un9 (by simp) (rdS_z (i := 1) rfl))) ?_
                  | refine TO.dz 1073741823 (some 37) rfl rfl rfl rfl (Val.does (Val.b2s (l := List.replicate (48 - d.length) 0) rfl us23 ui5 un9 (by simp) (rdS_z (i := 2) rfl))) ?_
                  | refine TO.dz 1073741823 (some 37) rfl rfl rfl rfl (Val.does (Val.b2s (l := List.replicate (48 - d.length) 0) rfl us23 ui5 un9 (by simp) (rdS_z (i := 3) rfl))) ?_
                rintro _ _ ⟨rfl, rfl⟩
                refine roK ?_
                first
                  | refine TA.tk 30 2147483647 rfl rfl rfl (Val.addL rfl rfl (by first | omega | (simp <;> omega))) ?_
                  | refine TA.tk 30 2147483647 rfl rfl rfl (Val.addS rfl rfl (by first | decide | omega)) ?_
                refine TA.tk 31 4294967295 rfl rfl rfl (Val.assign rfl) ?_
                refine TA.done (by kernel_rfl) ?_
                refine AtX.join () ?_ (Sub.cons rfl (Sub.cons rfl (Sub.nil _))) (by repeat (first | exact ro_refl | exact ro_pre | refine ro_tail ?_ | refine ro_app ?_))
                trivial
              · skip
                first
                  | refine TO.dz 1063780351 (some 37) rfl rfl rfl rfl (Val.does (Val.b2s (l := List.replicate (48 - d.length) 0) rfl us23 ui5 un9 (by simp) (rdS_z (i := 0) rfl))) ?_
                  | refine TO.dz 1063780351 (some 37) rfl rfl rfl rfl (Val.does (Val.b2s (l := List.replicate (48 - d.length) 0) rfl us23 ui5 un9 (by simp) (rdS_z (i := 1) rfl))) ?_
                  | refine TO.dz 1063780351 (some 37) rfl rfl rfl rfl (Val.does (Val.b2s (l := List.replicate (48 - d.length) 0) rfl us23 ui5 un9 (by simp) (rdS_z (i := 2) rfl))) ?_
                  | refine TO.dz 1063780351 (some 37) rfl rfl rfl rfl (Val.does (Val.b2s (l := List.replicate (48 - d.length) 0) rfl us23 ui5 un9 (by simp) (rdS_z (i := 3) rfl))) ?_
                rintro _ _ ⟨rfl, rfl⟩
                refine roK ?_
                refine TA.one 19 (by kernel_rfl) ?_
                first
                  | refine TO.dz 1064304639 (some 27) rfl rfl rfl rfl (Val.does (Val.b2s (l := [Go.X.b8 kd, Go.X.b8 d.length]) rfl us23 ui5 un9 rfl (.some (Rd.get (i := 0) rfl rfl)))) ?_
                  | refine TO.dz 1064304639 (some 27) rfl rfl rfl rfl (Val.does (Val.b2s (l := [Go.X.b8 kd, Go.X.b8 d.length]) rfl us23 ui5 un9 rfl (.some (Rd.get (i := 1) rfl rfl)))) ?_
                  | refine TO.dz 1064304639 (some 27) rfl rfl rfl rfl (Val.does (Val.b2s (l := [Go.X.b8 kd, Go.X.b8 d.length]) rfl us23 ui5 un9 rfl (.some (Rd.get (i := 2) rfl rfl)))) ?_
                  | refine TO.dz 1064304639 (some 27) rfl rfl rfl rfl (Val.does (Val.b2s (l := [Go.X.b8 kd, Go.X.b8 d.length]) rfl us23 ui5 un9 rfl (.some (Rd.get (i := 3) rfl rfl)))) ?_
                rintro _ _ ⟨rfl, rfl⟩
                refine roK ?_
                first
                  | refine TA.tk 20 1065353215 rfl rfl rfl (Val.addL rfl rfl (by first | omega | (simp <;> omega))) ?_
                  | refine TA.tk 20 1065353215 rfl rfl rfl (Val.addS rfl rfl (by first | decide | omega)) ?_
                first
                  | refine TA.tk 23 1073741823 rfl rfl rfl (Val.addL rfl rfl (by first | omega | (simp <;> omega))) ?_
                  | refine TA.tk 23 1073741823 rfl rfl rfl (Val.addS rfl rfl (by first | decide | omega)) ?_
                first
                  | refine TA.tk 30 2147483647 rfl rfl rfl (Val.addL rfl rfl (by first | omega | (simp <;> omega))) ?_
                  | refine TA.tk 30 2147483647 rfl rfl rfl (Val.addS rfl rfl (by first | decide | omega)) ?_
                refine TA.tk 31 4294967295 rfl rfl rfl (Val.assign rfl) ?_
                refine TA.done (by kernel_rfl) ?_
                refine AtX.join () ?_ (Sub.cons rfl (Sub.cons rfl (Sub.nil _))) (by repeat (first | exact ro_refl | exact ro_pre | refine ro_tail ?_ | refine ro_app ?_))
                trivial
            · skip
              first
                | refine TO.dz 527431935 (some 27) rfl rfl rfl rfl (Val.does (Val.b2s (l := [Go.X.b8 kd, Go.X.b8 d.length]) rfl us23 ui5 un9 rfl (.some (Rd.get (i := 0) rfl rfl)))) ?_
                | refine TO.dz 527431935 (some 27) rfl rfl rfl rfl (Val.does (Val.b2s (l := [Go.X.b8 kd, Go.X.b8 d.length]) rfl us23 ui5 un9 rfl (.some (Rd.get (i := 1) rfl rfl)))) ?_
                | refine TO.dz 527431935 (some 27) rfl rfl rfl rfl (Val.does (Val.b2s (l := [Go.X.b8 kd, Go.X.b8 d.length]) rfl us23 ui5 un9 rfl (.some (Rd.get (i := 2) rfl rfl)))) ?_
                | refine TO.dz 527431935 (some 27) rfl rfl rfl rfl (Val.does (Val.b2s (l := [Go.X.b8 kd, Go.X.b8 d.length]) rfl us23 ui5 un9 rfl (.some (Rd.get (i := 3) rfl rfl)))) ?_
              rintro _ _ ⟨rfl, rfl⟩
              refine roK ?_
              refine TA.two 8 29 (by kernel_rfl) ?_ ?_
              · skip
                refine TO.dz 527432191 (some 16) rfl rfl rfl rfl (Does.callF go23 rfl (refPut_fn _ _)) ?_
                rintro _ _ ⟨rfl, rfl⟩
                refine roK ?_
                refine TA.tk 9 527432703 rfl rfl rfl (Val.sliceL (i := 0) (j := 2) rfl un9 rfl rfl rfl rfl (by omega) (by simp)) ?_
                first
                  | refine TA.tk 10 527433727 rfl rfl rfl (Val.addL rfl rfl (by first | omega | (simp <;> omega))) ?_
                  | refine TA.tk 10 527433727 rfl rfl rfl (Val.addS rfl rfl (by first | decide | omega)) ?_
                first
                  | refine TA.tk 20 528482303 rfl rfl rfl (Val.addL rfl rfl (by first | omega | (simp <;> omega))) ?_
                  | refine TA.tk 20 528482303 rfl rfl rfl (Val.addS rfl rfl (by first | decide | omega)) ?_
                first
                  | refine TA.tk 23 536870911 rfl rfl rfl (Val.addL rfl rfl (by first | omega | (simp <;> omega))) ?_
                  | refine TA.tk 23 536870911 rfl rfl rfl (Val.addS rfl rfl (by first | decide | omega)) ?_
                refine TA.one 29 (by kernel_rfl) ?_
                first
                  | refine TO.dz 1073741823 (some 37) rfl rfl rfl rfl (Val.does (Val.b2s (l := List.replicate (48 - d.length) 0) rfl us23 ui5 un9 (by simp) (rdS_z (i := 0) rfl))) ?_
                  | refine TO.dz 1073741823 (some 37) rfl rfl rfl rfl (Val.does (Val.b2s (l := List.replicate (48 - d.length) 0) rfl us23 ui5 un9 (by simp) (rdS_z (i := 1) rfl))) ?_
                  | refine TO.dz 1073741823 (some 37) rfl rfl rfl rfl (Val.does (Val.b2s (l := List.replicate (48 - d.length) 0) rfl us23 ui5 un9 (by simp) (rdS_z (i := 2) rfl))) ?_
                  | refine TO.dz 1073741823 (some 37) rfl rfl rfl rfl (Val.does (Val.b2s (l := List.replicate (48 - d.length) 0) rfl us23 ui5 un9 (by simp) (rdS_z (i := 3) rfl))) ?_
                rintro _ _ ⟨rfl, rfl⟩
                refine roK ?_
                first
                  | refine TA.tk 30 2147483647 rfl rfl rfl (Val.addL rfl rfl (by first | omega | (simp <;> omega))) ?_
                  | refine TA.tk 30 2147483647 rfl rfl rfl (Val.addS rfl rfl (by first | decide | omega)) ?_
                refine TA.tk 31 4294967295 rfl rfl rfl (Val.assign rfl) ?_
                refine TA.done (by kernel_rfl) ?_
                refine AtX.join () ?_ (Sub.cons rfl (Sub.cons rfl (Sub.nil _))) (by repeat (first | exact ro_refl | exact ro_pre | refine ro_tail ?_ | refine ro_app ?_))
                trivial
              · skip
                first
                  | refine TO.dz 1064302847 (some 37) rfl rfl rfl rfl (Val.does (Val.b2s (l := List.replicate (48 - d.length) 0) rfl us23 ui5 un9 (by simp) (rdS_z (i := 0) rfl))) ?_
                  | refine TO.dz 1064302847 (some 37) rfl rfl rfl rfl (Val.does (Val.b2s (l := List.replicate (48 - d.length) 0) rfl us23 ui5 un9 (by simp) (rdS_z (i := 1) rfl))) ?_
                  | refine TO.dz 1064302847 (some 37) rfl rfl rfl rfl (Val.does (Val.b2s (l := List.replicate (48 - d.length) 0) rfl us23 ui5 un9 (by simp) (rdS_z (i := 2) rfl))) ?_
                  | refine TO.dz 1064302847 (some 37) rfl rfl rfl rfl (Val.does (Val.b2s (l := List.replicate (48 - d.length) 0) rfl us23 ui5 un9 (by simp) (rdS_z (i := 3) rfl))) ?_
                rintro _ _ ⟨rfl, rfl⟩
                refine roK ?_
                refine TA.one 8 (by kernel_rfl) ?_
                refine TO.dz 1064303103 (some 16) rfl rfl rfl rfl (Does.callF go23 rfl (refPut_fn _ _)) ?_
                rintro _ _ ⟨rfl, rfl⟩
                refine roK ?_
                refine TA.tk 9 1064303615 rfl rfl rfl (Val.sliceL (i := 0) (j := 2) rfl un9 rfl rfl rfl rfl (by omega) (by simp)) ?_
                first
                  | refine TA.tk 10 1064304639 rfl rfl rfl (Val.addL rfl rfl (by first | omega | (simp <;> omega))) ?_
                  | refine TA.tk 10 1064304639 rfl rfl rfl (Val.addS rfl rfl (by first | decide | omega)) ?_
                first
                  | refine TA.tk 20 1065353215 rfl rfl rfl (Val.addL rfl rfl (by first | omega | (simp <;> omega))) ?_
                  | refine TA.tk 20 1065353215 rfl rfl rfl (Val.addS rfl rfl (by first | decide | omega)) ?_
                first
                  | refine TA.tk 23 1073741823 rfl rfl rfl (Val.addL rfl rfl (by first | omega | (simp <;> omega))) ?_
                  | refine TA.tk 23 1073741823 rfl rfl rfl (Val.addS rfl rfl (by first | decide | omega)) ?_
                first
                  | refine TA.tk 30 2147483647 rfl rfl rfl (Val.addL rfl rfl (by first | omega | (simp <;> omega))) ?_
                  | refine TA.tk 30 2147483647 rfl rfl rfl (Val.addS rfl rfl (by first | decide | omega)) ?_
                refine TA.tk 31 4294967295 rfl rfl rfl (Val.assign rfl) ?_
                refine TA.done (by kernel_rfl) ?_
                refine AtX.join () ?_ (Sub.cons rfl (Sub.cons rfl (Sub.nil _))) (by repeat (first | exact ro_refl | exact ro_pre | refine ro_tail ?_ | refine ro_app ?_))
                trivial
            · skip
              first
                | refine TO.dz 1063778559 (some 37) rfl rfl rfl rfl (Val.does (Val.b2s (l := List.replicate (48 - d.length) 0) rfl us23 ui5 un9 (by simp) (rdS_z (i := 0) rfl))) ?_
                | refine TO.dz 1063778559 (some 37) rfl rfl rfl rfl (Val.does (Val.b2s (l := List.replicate (48 - d.length) 0) rfl us23 ui5 un9 (by simp) (rdS_z (i := 1) rfl))) ?_
                | refine TO.dz 1063778559 (some 37) rfl rfl rfl rfl (Val.does (Val.b2s (l := List.replicate (48 - d.length) 0) rfl us23 ui5 un9 (by simp) (rdS_z (i := 2) rfl))) ?_
                | refine TO.dz 1063778559 (some 37) rfl rfl rfl rfl (Val.does (Val.b2s (l := List.replicate (48 - d.length) 0) rfl us23 ui5 un9 (by simp) (rdS_z (i := 3) rfl))) ?_
              rintro _ _ ⟨rfl, rfl⟩
              refine roK ?_
              refine TA.two 8 19 (by kernel_rfl) ?_ ?_
              · skip
                refine TO.dz 1063778815 (some 16) rfl rfl rfl rfl (Does.callF go23 rfl (refPut_fn _ _)) ?_
                rintro _ _ ⟨rfl, rfl⟩
                refine roK ?_
                refine TA.tk 9 1063779327 rfl rfl rfl (Val.sliceL (i := 0) (j := 2) rfl un9 rfl rfl rfl rfl (by omega) (by simp)) ?_
                first
                  | refine TA.tk 10 1063780351 rfl rfl rfl (Val.addL rfl rfl (by first | omega | (simp <;> omega))) ?_
                  | refine TA.tk 10 1063780351 rfl rfl rfl (Val.addS rfl rfl (by first | decide | omega)) ?_
                refine TA.one 19 (by kernel_rfl) ?_
                first
                  | refine TO.dz 1064304639 (some 27) rfl rfl rfl rfl (Val.does (Val.b2s (l := [Go.X.b8 kd, Go.X.b8 d.length]) rfl us23 ui5 un9 rfl (.some (Rd.get (i := 0) rfl rfl)))) ?_
                  | refine TO.dz 1064304639 (some 27) rfl rfl rfl rfl (Val.does (Val.b2s (l := [Go.X.b8 kd, Go.X.b8 d.length]) rfl us23 ui5 un9 rfl (.some (Rd.get (i := 1) rfl rfl)))) ?_
                  | refine TO.dz 1064304639 (some 27) rfl rfl rfl rfl (Val.does (Val.b2s (l := [Go.X.b8 kd, Go.X.b8 d.length]) rfl us23 ui5 un9 rfl (.some (Rd.get (i := 2) rfl rfl)))) ?_
                  | refine TO.dz 1064304639 (some 27) rfl rfl rfl rfl (Val.does (Val.b2s (l := [Go.X.b8 kd, Go.X.b8 d.length]) rfl us23 ui5 un9 rfl (.some (Rd.get (i := 3) rfl rfl)))) ?_
                rintro _ _ ⟨rfl, rfl⟩
                refine roK ?_
                first
                  | refine TA.tk 20 1065353215 rfl rfl rfl (Val.addL rfl rfl (by first | omega | (simp <;> omega))) ?_
                  | refine TA.tk 20 1065353215 rfl rfl rfl (Val.addS rfl rfl (by first | decide | omega)) ?_
                first
                  | refine TA.tk 23 1073741823 rfl rfl rfl (Val.addL rfl rfl (by first | omega | (simp <;> omega))) ?_
                  | refine TA.tk 23 1073741823 rfl rfl rfl (Val.addS rfl rfl (by first | decide | omega)) ?_
                first
                  | refine TA.tk 30 2147483647 rfl rfl rfl (Val.addL rfl rfl (by first | omega | (simp <;> omega))) ?_
                  | refine TA.tk 30 2147483647 rfl rfl rfl (Val.addS rfl rfl (by first | decide | omega)) ?_
                refine TA.tk 31 4294967295 rfl rfl rfl (Val.assign rfl) ?_
                refine TA.done (by kernel_rfl) ?_
                refine AtX.join () ?_ (Sub.cons rfl (Sub.cons rfl (Sub.nil _))) (by repeat (first | exact ro_refl | exact ro_pre | refine ro_tail ?_ | refine ro_app ?_))
                trivial
              · skip
                first
                  | refine TO.dz 1064302847 (some 27) rfl rfl rfl rfl (Val.does (Val.b2s (l := [Go.X.b8 kd, Go.X.b8 d.length]) rfl us23 ui5 un9 rfl (.some (Rd.get (i := 0) rfl rfl)))) ?_
                  | refine TO.dz 1064302847 (some 27) rfl rfl rfl rfl (Val.does (Val.b2s (l := [Go.X.b8 kd, Go.X.b8 d.length]) rfl us23 ui5 un9 rfl (.some (Rd.get (i := 1) rfl rfl)))) ?_
                  | refine TO.dz 1064302847 (some 27) rfl rfl rfl rfl (Val.does (Val.b2s (l := [Go.X.b8 kd, Go.X.b8 d.length]) rfl us23 ui5 un9 rfl (.some (Rd.get (i := 2) rfl rfl)))) ?_
                  | refine TO.dz 1064302847 (some 27) rfl rfl rfl rfl (Val.does (Val.b2s (l := [Go.X.b8 kd, Go.X.b8 d.length]) rfl us23 ui5 un9 rfl (.some (Rd.get (i := 3) rfl rfl)))) ?_
                rintro _ _ ⟨rfl, rfl⟩
                refine roK ?_
                refine TA.one 8 (by kernel_rfl) ?_
                refine TO.dz 1064303103 (some 16) rfl rfl rfl rfl (Does.callF go23 rfl (refPut_fn _ _)) ?_
                rintro _ _ ⟨rfl, rfl⟩
                refine roK ?_
                refine TA.tk 9 1064303615 rfl rfl rfl (Val.sliceL (i := 0) (j := 2) rfl un9 rfl rfl rfl rfl (by omega) (by simp)) ?_
                first
                  | refine TA.tk 10 1064304639 rfl rfl rfl (Val.addL rfl rfl (by first | omega | (simp <;> omega))) ?_
                  | refine TA.tk 10 1064304639 rfl rfl rfl (Val.addS rfl rfl (by first | decide | omega)) ?_
                first
                  | refine TA.tk 20 1065353215 rfl rfl rfl (Val.addL rfl rfl (by first | omega | (simp <;> omega))) ?_
                  | refine TA.tk 20 1065353215 rfl rfl rfl (Val.addS rfl rfl (by first | decide | omega)) ?_
                first
                  | refine TA.tk 23 1073741823 rfl rfl rfl (Val.addL rfl rfl (by first | omega | (simp <;> omega))) ?_
                  | refine TA.tk 23 1073741823 rfl rfl rfl (Val.addS rfl rfl (by first | decide | omega)) ?_
                first
                  | refine TA.tk 30 2147483647 rfl rfl rfl (Val.addL rfl rfl (by first | omega | (simp <;> omega))) ?_
                  | refine TA.tk 30 2147483647 rfl rfl rfl (Val.addS rfl rfl (by first | decide | omega)) ?_
                refine TA.tk 31 4294967295 rfl rfl rfl (Val.assign rfl) ?_
                refine TA.done (by kernel_rfl) ?_
                refine AtX.join () ?_ (Sub.cons rfl (Sub.cons rfl (Sub.nil _))) (by repeat (first | exact ro_refl | exact ro_pre | refine ro_tail ?_ | refine ro_app ?_))
                trivial
          · skip
            first
              | refine TO.dz 527431911 (some 27) rfl rfl rfl rfl (Val.does (Val.b2s (l := [Go.X.b8 kd, Go.X.b8 d.length]) rfl us23 ui5 un9 rfl (.some (Rd.get (i := 0) rfl rfl)))) ?_
              | refine TO.dz 527431911 (some 27) rfl rfl rfl rfl (Val.does (Val.b2s (l := [Go.X.b8 kd, Go.X.b8 d.length]) rfl us23 ui5 un9 rfl (.some (Rd.get (i := 1) rfl rfl)))) ?_
              | refine TO.dz 527431911 (some 27) rfl rfl rfl rfl (Val.does (Val.b2s (l := [Go.X.b8 kd, Go.X.b8 d.length]) rfl us23 ui5 un9 rfl (.some (Rd.get (i := 2) rfl rfl)))) ?_
              | refine TO.dz 527431911 (some 27) rfl rfl rfl rfl (Val.does (Val.b2s (l := [Go.X.b8 kd, Go.X.b8 d.length]) rfl us23 ui5 un9 rfl (.some (Rd.get (i := 3) rfl rfl)))) ?_
            rintro _ _ ⟨rfl, rfl⟩
            refine roK ?_
            refine TA.two 3 29 (by kernel_rfl) ?_ ?_
            · skip
              refine TO.dz 527431919 (some 11) rfl rfl rfl rfl (Does.callF go23 rfl (refPut_fn _ _)) ?_
              rintro _ _ ⟨rfl, rfl⟩
              refine roK ?_
              refine TA.tk 4 527431935 rfl rfl rfl (Val.sliceL (i := 0) (j := 4) rfl un9 rfl rfl rfl rfl (by omega) (by simp)) ?_
              refine TA.two 8 29 (by kernel_rfl) ?_ ?_
              · skip
                refine TO.dz 527432191 (some 16) rfl rfl rfl rfl (Does.callF go23 rfl (refPut_fn _ _)) ?_
                rintro _ _ ⟨rfl, rfl⟩
                refine roK ?_
                refine TA.tk 9 527432703 rfl rfl rfl (Val.sliceL (i := 0) (j := 2) rfl un9 rfl rfl rfl rfl (by omega) (by simp)) ?_
                first
                  | refine TA.tk 10 527433727 rfl rfl rfl (Val.addL rfl rfl (by first | omega | (simp <;> omega))) ?_
                  | refine TA.tk 10 527433727 rfl rfl rfl (Val.addS rfl rfl (by first | decide | omega)) ?_
                first
                  | refine TA.tk 20 528482303 rfl rfl rfl (Val.addL rfl rfl (by first | omega | (simp <;> omega))) ?_
                  | refine TA.tk 20 528482303 rfl rfl rfl (Val.addS rfl rfl (by first | decide | omega)) ?_
                first
                  | refine TA.tk 23 536870911 rfl rfl rfl (Val.addL rfl rfl (by first | omega | (simp <;> omega))) ?_
                  | refine TA.tk 23 536870911 rfl rfl rfl (Val.addS rfl rfl (by first | decide | omega)) ?_
                refine TA.one 29 (by kernel_rfl) ?_
                first
                  | refine TO.dz 1073741823 (some 37) rfl rfl rfl rfl (Val.does (Val.b2s (l := List.replicate (48 - d.length) 0) rfl us23 ui5 un9 (by simp) (rdS_z (i := 0) rfl))) ?_
                  | refine TO.dz 1073741823 (some 37) rfl rfl rfl rfl (Val.does (Val.b2s (l := List.replicate (48 - d.length) 0) rfl us23 ui5 un9 (by simp) (rdS_z (i := 1) rfl))) ?_
                  | refine TO.dz 1073741823 (some 37) rfl rfl rfl rfl (Val.does (Val.b2s (l := List.replicate (48 - d.length) 0) rfl us23 ui5 un9 (by simp) (rdS_z (i := 2) rfl))) ?_
                  | refine TO.dz 1073741823 (some 37) rfl rfl rfl rfl (Val.does (Val.b2s (l := List.replicate (48 - d.length) 0) rfl us23 ui5 un9 (by simp) (rdS_z (i := 3) rfl))) ?_
                rintro _ _ ⟨rfl, rfl⟩
                refine roK ?_
                first
                  | refine TA.tk 30 2147483647 rfl rfl rfl (Val.addL rfl rfl (by first | omega | (simp <;> omega))) ?_
                  | refine TA.tk 30 2147483647 rfl rfl rfl (Val.addS rfl rfl (by first | decide | omega)) ?_
                refine TA.tk 31 4294967295 rfl rfl rfl (Val.assign rfl) ?_
                refine TA.done (by kernel_rfl) ?_
                refine AtX.join () ?_ (Sub.cons rfl (Sub.cons rfl (Sub.nil _))) (by repeat (first | exact ro_refl | exact ro_pre | refine ro_tail ?_ | refine ro_app ?_))
                trivial
              · skip
                first
                  | refine TO.dz 1064302847 (some 37) rfl rfl rfl rfl (Val.does (Val.b2s (l := List.replicate (48 - d.length) 0) rfl us23 ui5 un9 (by simp) (rdS_z (i := 0) rfl))) ?_
                  | refine TO.dz 1064302847 (some 37) rfl rfl rfl rfl (Val.does (Val.b2s (l := List.replicate (48 - d.length) 0) rfl us23 ui5 un9 (by simp) (rdS_z (i := 1) rfl))) ?_
                  | refine TO.dz 1064302847 (some 37) rfl rfl rfl rfl (Val.does (Val.b2s (l := List.replicate (48 - d.length) 0) rfl us23 ui5 un9 (by simp) (rdS_z (i := 2) rfl))) ?_
                  | refine TO.dz 1064302847 (some 37) rfl rfl rfl rfl (Val.does (Val.b2s (l := List.replicate (48 - d.length) 0) rfl us23 ui5 un9 (by simp) (rdS_z (i := 3) rfl))) ?_
                rintro _ _ ⟨rfl, rfl⟩
                refine roK ?_
                refine TA.one 8 (by kernel_rfl) ?_
                refine TO.dz 1064303103 (some 16) rfl rfl rfl rfl (Does.callF go23 rfl (refPut_fn _ _)) ?_
                rintro _ _ ⟨rfl, rfl⟩
                refine roK ?_
                refine TA.tk 9 1064303615 rfl rfl rfl (Val.sliceL (i := 0) (j := 2) rfl un9 rfl rfl rfl rfl (by omega) (by simp)) ?_
                first
                  | refine TA.tk 10 1064304639 rfl rfl rfl (Val.addL rfl rfl (by first | omega | (simp <;> omega))) ?_
                  | refine TA.tk 10 1064304639 rfl rfl rfl (Val.addS rfl rfl (by first | decide | omega)) ?_
                first
                  | refine TA.tk 20 1065353215 rfl rfl rfl (Val.addL rfl rfl (by first | omega | (simp <;> omega))) ?_
                  | refine TA.tk 20 1065353215 rfl rfl rfl (Val.addS rfl rfl (by first | decide | omega)) ?_
                first
                  | refine TA.tk 23 1073741823 rfl rfl rfl (Val.addL rfl rfl (by first | omega | (simp <;> omega))) ?_
                  | refine TA.tk 23 1073741823 rfl rfl rfl (Val.addS rfl rfl (by first | decide | omega)) ?_
                first
                  | refine TA.tk 30 2147483647 rfl rfl rfl (Val.addL rfl rfl (by first | omega | (simp <;> omega))) ?_
                  | refine TA.tk 30 2147483647 rfl rfl rfl (Val.addS rfl rfl (by first | decide | omega)) ?_
                refine TA.tk 31 4294967295 rfl rfl rfl (Val.assign rfl) ?_
                refine TA.done (by kernel_rfl) ?_
                refine AtX.join () ?_ (Sub.cons rfl (Sub.cons rfl (Sub.nil _))) (by repeat (first | exact ro_refl | exact ro_pre | refine ro_tail ?_ | refine ro_app ?_))
                trivial
            · skip
              first
                | refine TO.dz 1064302823 (some 37) rfl rfl rfl rfl (Val.does (Val.b2s (l := List.replicate (48 - d.length) 0) rfl us23 ui5 un9 (by simp) (rdS_z (i := 0) rfl))) ?_
                | refine TO.dz 1064302823 (some 37) rfl rfl rfl rfl (Val.does (Val.b2s (l := List.replicate (48 - d.length) 0) rfl us23 ui5 un9 (by simp) (rdS_z (i := 1) rfl))) ?_
                | refine TO.dz 1064302823 (some 37) rfl rfl rfl rfl (Val.does (Val.b2s (l := List.replicate (48 - d.length) 0) rfl us23 ui5 un9 (by simp) (rdS_z (i := 2) rfl))) ?_
                | refine TO.dz 1064302823 (some 37) rfl rfl rfl rfl (Val.does (Val.b2s (l := List.replicate (48 - d.length) 0) rfl us23 ui5 un9 (by simp) (rdS_z (i := 3) rfl))) ?_
              rintro _ _ ⟨rfl, rfl⟩
              refine roK ?_
              refine TA.one 3 (by kernel_rfl) ?_
              refine TO.dz 1064302831 (some 11) rfl rfl rfl rfl (Does.callF go23 rfl (refPut_fn _ _)) ?_
              rintro _ _ ⟨rfl, rfl⟩
              refine roK ?_
              refine TA.tk 4 1064302847 rfl rfl rfl (Val.sliceL (i := 0) (j := 4) rfl un9 rfl rfl rfl rfl (by omega) (by simp)) ?_
              refine TA.one 8 (by kernel_rfl) ?_
              refine TO.dz 1064303103 (some 16) rfl rfl rfl rfl (Does.callF go23 rfl (refPut_fn _ _)) ?_
              rintro _ _ ⟨rfl, rfl⟩
              refine roK ?_
              refine TA.tk 9 1064303615 rfl rfl rfl (Val.sliceL (i := 0) (j := 2) rfl un9 rfl rfl rfl rfl (by omega) (by simp)) ?_
              first
                | refine TA.tk 10 1064304639 rfl rfl rfl (Val.addL rfl rfl (by first | omega | (simp <;> omega))) ?_
                | refine TA.tk 10 1064304639 rfl rfl rfl (Val.addS rfl rfl (by first | decide | omega)) ?_
              first
                | refine TA.tk 20 1065353215 rfl rfl rfl (Val.addL rfl rfl (by first | omega | (simp <;> omega))) ?_
                | refine TA.tk 20 1065353215 rfl rfl rfl (Val.addS rfl rfl (by first | decide | omega)) ?_
              first
                | refine TA.tk 23 1073741823 rfl rfl rfl (Val.addL rfl rfl (by first | omega | (simp <;> omega))) ?_
                | refine TA.tk 23 1073741823 rfl rfl rfl (Val.addS rfl rfl (by first | decide | omega)) ?_
              first
                | refine TA.tk 30 2147483647 rfl rfl rfl (Val.addL rfl rfl (by first | omega | (simp <;> omega))) ?_
                | refine TA.tk 30 2147483647 rfl rfl rfl (Val.addS rfl rfl (by first | decide | omega)) ?_
              refine TA.tk 31 4294967295 rfl rfl rfl (Val.assign rfl) ?_
              refine TA.done (by kernel_rfl) ?_
              refine AtX.join () ?_ (Sub.cons rfl (Sub.cons rfl (Sub.nil _))) (by repeat (first | exact ro_refl | exact ro_pre | refine ro_tail ?_ | refine ro_app ?_))
              trivial
          · skip
            first
              | refine TO.dz 1063778535 (some 37) rfl rfl rfl rfl (Val.does (Val.b2s (l := List.replicate (48 - d.length) 0) rfl us23 ui5 un9 (by simp) (rdS_z (i := 0) rfl))) ?_
              | refine TO.dz 1063778535 (some 37) rfl rfl rfl rfl (Val.does (Val.b2s (l := List.replicate (48 - d.length) 0) rfl us23 ui5 un9 (by simp) (rdS_z (i := 1) rfl))) ?_
              | refine TO.dz 1063778535 (some 37) rfl rfl rfl rfl (Val.does (Val.b2s (l := List.replicate (48 - d.length) 0) rfl us23 ui5 un9 (by simp) (rdS_z (i := 2) rfl))) ?_
              | refine TO.dz 1063778535 (some 37) rfl rfl rfl rfl (Val.does (Val.b2s (l := List.replicate (48 - d.length) 0) rfl us23 ui5 un9 (by simp) (rdS_z (i := 3) rfl))) ?_
            rintro _ _ ⟨rfl, rfl⟩
            refine roK ?_
            refine TA.two 3 19 (by kernel_rfl) ?_ ?_
            · skip
              refine TO.dz 1063778543 (some 11) rfl rfl rfl rfl (Does.callF go23 rfl (refPut_fn _ _)) ?_
              rintro _ _ ⟨rfl, rfl⟩
              refine roK ?_
              refine TA.tk 4 1063778559 rfl rfl rfl (Val.sliceL (i := 0) (j := 4) rfl un9 rfl rfl rfl rfl (by omega) (by simp)) ?_
              refine TA.two 8 19 (by kernel_rfl) ?_ ?_
              · skip
                refine TO.dz 1063778815 (some 16) rfl rfl rfl rfl (Does.callF go23 rfl (refPut_fn _ _)) ?_
                rintro _ _ ⟨rfl, rfl⟩
                refine roK ?_
                refine TA.tk 9 1063779327 rfl rfl rfl (Val.sliceL (i := 0) (j := 2) rfl un9 rfl rfl rfl rfl (by omega) (by simp)) ?_
                first
                  | refine TA.tk 10 1063780351 rfl rfl rfl (Val.addL rfl rfl (by first | omega | (simp <;> omega))) ?_
                  | refine TA.tk 10 1063780351 rfl rfl rfl (Val.addS rfl rfl (by first | decide | omega)) ?_
                refine TA.one 19 (by kernel_rfl) ?_
                first
                  | refine TO.dz 1064304639 (some 27) rfl rfl rfl rfl (Val.does (Val.b2s (l := [Go.X.b8 kd, Go.X.b8 d.length]) rfl us23 ui5 un9 rfl (.some (Rd.get (i := 0) rfl rfl)))) ?_
                  | refine TO.dz 1064304639 (some 27) rfl rfl rfl rfl (Val.does (Val.b2s (l := [Go.X.b8 kd, Go.X.b8 d.length]) rfl us23 ui5 un9 rfl (.some (Rd.get (i := 1) rfl rfl)))) ?_
                  | refine TO.dz 1064304639 (some 27) rfl rfl rfl rfl (Val.does (Val.b2s (l := [Go.X.b8 kd, Go.X.b8 d.length]) rfl us23 ui5 un9 rfl (.some (Rd.get (i := 2) rfl rfl)))) ?_
                  | refine TO.dz 1064304639 (some 27) rfl rfl rfl rfl (Val.does (Val.b2s (l := [Go.X.b8 kd, Go.X.b8 d.length]) rfl us23 ui5 un9 rfl (.some (Rd.get (i := 3) rfl rfl)))) ?_
                rintro _ _ ⟨rfl, rfl⟩
                refine roK ?_
                first
                  | refine TA.tk 20 1065353215 rfl rfl rfl (Val.addL rfl rfl (by first | omega | (simp <;> omega))) ?_
                  | refine TA.tk 20 1065353215 rfl rfl rfl (Val.addS rfl rfl (by first | decide | omega)) ?_
                first
                  | refine TA.tk 23 1073741823 rfl rfl rfl (Val.addL rfl rfl (by first | omega | (simp <;> omega))) ?_
                  | refine TA.tk 23 1073741823 rfl rfl rfl (Val.addS rfl rfl (by first | decide | omega)) ?_
                first
                  | refine TA.tk 30 2147483647 rfl rfl rfl (Val.addL rfl rfl (by first | omega | (simp <;> omega))) ?_
                  | refine TA.tk 30 2147483647 rfl rfl rfl (Val.addS rfl rfl (by first | decide | omega)) ?_
                refine TA.tk 31 4294967295 rfl rfl rfl (Val.assign rfl) ?_
                refine TA.done (by kernel_rfl) ?_
                refine AtX.join () ?_ (Sub.cons rfl (Sub.cons rfl (Sub.nil _))) (by repeat (first | exact ro_refl | exact ro_pre | refine ro_tail ?_ | refine ro_app ?_))
                trivial
              · skip
                first
                  | refine TO.dz 1064302847 (some 27) rfl rfl rfl rfl (Val.does (Val.b2s (l := [Go.X.b8 kd, Go.X.b8 d.length]) rfl us23 ui5 un9 rfl (.some (Rd.get (i := 0) rfl rfl)))) ?_
                  | refine TO.dz 1064302847 (some 27) rfl rfl rfl rfl (Val.does (Val.b2s (l := [Go.X.b8 kd, Go.X.b8 d.length]) rfl us23 ui5 un9 rfl (.some (Rd.get (i := 1) rfl rfl)))) ?_
                  | refine TO.dz 1064302847 (some 27) rfl rfl rfl rfl (Val.does (Val.b2s (l := [Go.X.b8 kd, Go.X.b8 d.length]) rfl us23 ui5 un9 rfl (.some (Rd.get (i := 2) rfl rfl)))) ?_
                  | refine TO.dz 1064302847 (some 27) rfl rfl rfl rfl (Val.does (Val.b2s (l := [Go.X.b8 kd, Go.X.b8 d.length]) rfl us23 ui5 un9 rfl (.some (Rd.get (i := 3) rfl rfl)))) ?_
                rintro _ _ ⟨rfl, rfl⟩
                refine roK ?_
                refine TA.one 8 (by kernel_rfl) ?_
                refine TO.dz 1064303103 (some 16) rfl rfl rfl rfl (Does.callF go23 rfl (refPut_fn _ _)) ?_
                rintro _ _ ⟨rfl, rfl⟩
                refine roK ?_
                refine TA.tk 9 1064303615 rfl rfl rfl (Val.sliceL (i := 0) (j := 2) rfl un9 rfl rfl rfl rfl (by omega) (by simp)) ?_
                first
                  | refine TA.tk 10 1064304639 rfl rfl rfl (Val.addL rfl rfl (by first | omega | (simp <;> omega))) ?_
                  | refine TA.tk 10 1064304639 rfl rfl rfl (Val.addS rfl rfl (by first | decide | omega)) ?_
                first
                  | refine TA.tk 20 1065353215 rfl rfl rfl (Val.addL rfl rfl (by first | omega | (simp <;> omega))) ?_
                  | refine TA.tk 20 1065353215 rfl rfl rfl (Val.addS rfl rfl (by first | decide | omega)) ?_
                first
                  | refine TA.tk 23 1073741823 rfl rfl rfl (Val.addL rfl rfl (by first | omega | (simp <;> omega))) ?_
                  | refine TA.tk 23 1073741823 rfl rfl rfl (Val.addS rfl rfl (by first | decide | omega)) ?_
                first
                  | refine TA.tk 30 2147483647 rfl rfl rfl (Val.addL rfl rfl (by first | omega | (simp <;> omega))) ?_
                  | refine TA.tk 30 2147483647 rfl rfl rfl (Val.addS rfl rfl (by first | decide | omega)) ?_
                refine TA.tk 31 4294967295 rfl rfl rfl (Val.assign rfl) ?_
                refine TA.done (by kernel_rfl) ?_
                refine AtX.join () ?_ (Sub.cons rfl (Sub.cons rfl (Sub.nil _))) (by repeat (first | exact ro_refl | exact ro_pre | refine ro_tail ?_ | refine ro_app ?_))
                trivial
            · skip
              first
                | refine TO.dz 1064302823 (some 27) rfl rfl rfl rfl (Val.does (Val.b2s (l := [Go.X.b8 kd, Go.X.b8 d.length]) rfl us23 ui5 un9 rfl (.some (Rd.get (i := 0) rfl rfl)))) ?_
                | refine TO.dz 1064302823 (some 27) rfl rfl rfl rfl (Val.does (Val.b2s (l := [Go.X.b8 kd, Go.X.b8 d.length]) rfl us23 ui5 un9 rfl (.some (Rd.get (i := 1) rfl rfl)))) ?_
                | refine TO.dz 1064302823 (some 27) rfl rfl rfl rfl (Val.does (Val.b2s (l := [Go.X.b8 kd, Go.X.b8 d.length]) rfl us23 ui5 un9 rfl (.some (Rd.get (i := 2) rfl rfl)))) ?_
                | refine TO.dz 1064302823 (some 27) rfl rfl rfl rfl (Val.does (Val.b2s (l := [Go.X.b8 kd, Go.X.b8 d.length]) rfl us23 ui5 un9 rfl (.some (Rd.get (i := 3) rfl rfl)))) ?_
              rintro _ _ ⟨rfl, rfl⟩
              refine roK ?_
              refine TA.one 3 (by kernel_rfl) ?_
              refine TO.dz 1064302831 (some 11) rfl rfl rfl rfl (Does.callF go23 rfl (refPut_fn _ _)) ?_
              rintro _ _ ⟨rfl, rfl⟩
              refine roK ?_
              refine TA.tk 4 1064302847 rfl rfl rfl (Val.sliceL (i := 0) (j := 4) rfl un9 rfl rfl rfl rfl (by omega) (by simp)) ?_
              refine TA.one 8 (by kernel_rfl) ?_
              refine TO.dz 1064303103 (some 16) rfl rfl rfl rfl (Does.callF go23 rfl (refPut_fn _ _)) ?_
              rintro _ _ ⟨rfl, rfl⟩
              refine roK ?_
              refine TA.tk 9 1064303615 rfl rfl rfl (Val.sliceL (i := 0) (j := 2) rfl un9 rfl rfl rfl rfl (by omega) (by simp)) ?_
              first
                | refine TA.tk 10 1064304639 rfl rfl rfl (Val.addL rfl rfl (by first | omega | (simp <;> omega))) ?_
                | refine TA.tk 10 1064304639 rfl rfl rfl (Val.addS rfl rfl (by first | decide | omega)) ?_
              first
                | refine TA.tk 20 1065353215 rfl rfl rfl (Val.addL rfl rfl (by first | omega | (simp <;> omega))) ?_
                | refine TA.tk 20 1065353215 rfl rfl rfl (Val.addS rfl rfl (by first | decide | omega)) ?_
              first
                | refine TA.tk 23 1073741823 rfl rfl rfl (Val.addL rfl rfl (by first | omega | (simp <;> omega))) ?_
                | refine TA.tk 23 1073741823 rfl rfl rfl (Val.addS rfl rfl (by first | decide | omega)) ?_
              first
                | refine TA.tk 30 2147483647 rfl rfl rfl (Val.addL rfl rfl (by first | omega | (simp <;> omega))) ?_
                | refine TA.tk 30 2147483647 rfl rfl rfl (Val.addS rfl rfl (by first | decide | omega)) ?_
              refine TA.tk 31 4294967295 rfl rfl rfl (Val.assign rfl) ?_
              refine TA.done (by kernel_rfl) ?_
              refine AtX.join () ?_ (Sub.cons rfl (Sub.cons rfl (Sub.nil _))) (by repeat (first | exact ro_refl | exact ro_pre | refine ro_tail ?_ | refine ro_app ?_))
              trivial
        · skip
          first
            | refine TO.dz 1063516391 (some 37) rfl rfl rfl rfl (Val.does (Val.b2s (l := List.replicate (48 - d.length) 0) rfl us23 ui5 un9 (by simp) (rdS_z (i := 0) rfl))) ?_
            | refine TO.dz 1063516391 (some 37) rfl rfl rfl rfl (Val.does (Val.b2s (l := List.replicate (48 - d.length) 0) rfl us23 ui5 un9 (by simp) (rdS_z (i := 1) rfl))) ?_
            | refine TO.dz 1063516391 (some 37) rfl rfl rfl rfl (Val.does (Val.b2s (l := List.replicate (48 - d.length) 0) rfl us23 ui5 un9 (by simp) (rdS_z (i := 2) rfl))) ?_
            | refine TO.dz 1063516391 (some 37) rfl rfl rfl rfl (Val.does (Val.b2s (l := List.replicate (48 - d.length) 0) rfl us23 ui5 un9 (by simp) (rdS_z (i := 3) rfl))) ?_
          rintro _ _ ⟨rfl, rfl⟩
          refine roK ?_
          refine TA.two 3 18 (by kernel_rfl) ?_ ?_
          · skip
            refine TO.dz 1063516399 (some 11) rfl rfl rfl rfl (Does.callF go23 rfl (refPut_fn _ _)) ?_
            rintro _ _ ⟨rfl, rfl⟩
            refine roK ?_
            refine TA.tk 4 1063516415 rfl rfl rfl (Val.sliceL (i := 0) (j := 4) rfl un9 rfl rfl rfl rfl (by omega) (by simp)) ?_
            refine TA.two 8 18 (by kernel_rfl) ?_ ?_
            · skip
              refine TO.dz 1063516671 (some 16) rfl rfl rfl rfl (Does.callF go23 rfl (refPut_fn _ _)) ?_
              rintro _ _ ⟨rfl, rfl⟩
              refine roK ?_
              refine TA.tk 9 1063517183 rfl rfl rfl (Val.sliceL (i := 0) (j := 2) rfl un9 rfl rfl rfl rfl (by omega) (by simp)) ?_
              first
                | refine TA.tk 10 1063518207 rfl rfl rfl (Val.addL rfl rfl (by first | omega | (simp <;> omega))) ?_
                | refine TA.tk 10 1063518207 rfl rfl rfl (Val.addS rfl rfl (by first | decide | omega)) ?_
              refine TA.one 18 (by kernel_rfl) ?_
              refine TO.dz 1063780351 (some 26) rfl rfl rfl rfl (Does.buildSlice sl23 sz5 ze5 (by decide) (by decide) rfl rfl rfl) ?_
              rintro _ _ ⟨b102, rfl, rfl⟩
              refine roK ?_
              refine TA.one 19 (by kernel_rfl) ?_
              first
                | refine TO.dz 1064304639 (some 27) rfl rfl rfl rfl (Val.does (Val.b2s (l := [Go.X.b8 kd, Go.X.b8 d.length]) rfl us23 ui5 un9 rfl (.some (Rd.get (i := 0) rfl rfl)))) ?_
                | refine TO.dz 1064304639 (some 27) rfl rfl rfl rfl (Val.does (Val.b2s (l := [Go.X.b8 kd, Go.X.b8 d.length]) rfl us23 ui5 un9 rfl (.some (Rd.get (i := 1) rfl rfl)))) ?_
                | refine TO.dz 1064304639 (some 27) rfl rfl rfl rfl (Val.does (Val.b2s (l := [Go.X.b8 kd, Go.X.b8 d.length]) rfl us23 ui5 un9 rfl (.some (Rd.get (i := 2) rfl rfl)))) ?_
                | refine TO.dz 1064304639 (some 27) rfl rfl rfl rfl (Val.does (Val.b2s (l := [Go.X.b8 kd, Go.X.b8 d.length]) rfl us23 ui5 un9 rfl (.some (Rd.get (i := 3) rfl rfl)))) ?_
              rintro _ _ ⟨rfl, rfl⟩
              refine roK ?_
              first
                | refine TA.tk 20 1065353215 rfl rfl rfl (Val.addL rfl rfl (by first | omega | (simp <;> omega))) ?_
                | refine TA.tk 20 1065353215 rfl rfl rfl (Val.addS rfl rfl (by first | decide | omega)) ?_
              first
                | refine TA.tk 23 1073741823 rfl rfl rfl (Val.addL rfl rfl (by first | omega | (simp <;> omega))) ?_
                | refine TA.tk 23 1073741823 rfl rfl rfl (Val.addS rfl rfl (by first | decide | omega)) ?_
              first
                | refine TA.tk 30 2147483647 rfl rfl rfl (Val.addL rfl rfl (by first | omega | (simp <;> omega))) ?_
                | refine TA.tk 30 2147483647 rfl rfl rfl (Val.addS rfl rfl (by first | decide | omega)) ?_
              refine TA.tk 31 4294967295 rfl rfl rfl (Val.assign rfl) ?_
              refine TA.done (by kernel_rfl) ?_
              refine AtX.join () ?_ (Sub.cons rfl (Sub.cons rfl (Sub.nil _))) (by repeat (first | exact ro_refl | exact ro_pre | refine ro_tail ?_ | refine ro_app ?_))
              trivial
            · skip
              refine TO.dz 1063778559 (some 26) rfl rfl rfl rfl (Does.buildSlice sl23 sz5 ze5 (by decide) (by decide) rfl rfl rfl) ?_
              rintro _ _ ⟨b103, rfl, rfl⟩
              refine roK ?_
              refine TA.two 8 19 (by kernel_rfl) ?_ ?_
              · skip
                refine TO.dz 1063778815 (some 16) rfl rfl rfl rfl (Does.callF go23 rfl (refPut_fn _ _)) ?_
                rintro _ _ ⟨rfl, rfl⟩
                refine roK ?_
                refine TA.tk 9 1063779327 rfl rfl rfl (Val.sliceL (i := 0) (j := 2) rfl un9 rfl rfl rfl rfl (by omega) (by simp)) ?_
                first
                  | refine TA.tk 10 1063780351 rfl rfl rfl (Val.addL rfl rfl (by first | omega | (simp <;> omega))) ?_
                  | refine TA.tk 10 1063780351 rfl rfl rfl (Val.addS rfl rfl (by first | decide | omega)) ?_
                refine TA.one 19 (by kernel_rfl) ?_
                first
                  | refine TO.dz 1064304639 (some 27) rfl rfl rfl rfl (Val.does (Val.b2s (l := [Go.X.b8 kd, Go.X.b8 d.length]) rfl us23 ui5 un9 rfl (.some (Rd.get (i := 0) rfl rfl)))) ?_
                  | refine TO.dz 1064304639 (some 27) rfl rfl rfl rfl (Val.does (Val.b2s (l := [Go.X.b8 kd, Go.X.b8 d.length]) rfl us23 ui5 un9 rfl (.some (Rd.get (i := 1) rfl rfl)))) ?_
                  | refine TO.dz 1064304639 (some 27) rfl rfl rfl rfl (Val.does (Val.b2s (l := [Go.X.b8 kd, Go.X.b8 d.length]) rfl us23 ui5 un9 rfl (.some (Rd.get (i := 2) rfl rfl)))) ?_
                  | refine TO.dz 1064304639 (some 27) rfl rfl rfl rfl (Val.does (Val.b2s (l := [Go.X.b8 kd, Go.X.b8 d.length]) rfl us23 ui5 un9 rfl (.some (Rd.get (i := 3) rfl rfl)))) ?_
                rintro _ _ ⟨rfl, rfl⟩
                refine roK ?_
                first
                  | refine TA.tk 20 1065353215 rfl rfl rfl (Val.addL rfl rfl (by first | omega | (simp <;> omega))) ?_
                  | refine TA.tk 20 1065353215 rfl rfl rfl (Val.addS rfl rfl (by first | decide | omega)) ?_
                first
                  | refine TA.tk 23 1073741823 rfl rfl rfl (Val.addL rfl rfl (by first | omega | (simp <;> omega))) ?_
                  | refine TA.tk 23 1073741823 rfl rfl rfl (Val.addS rfl rfl (by first | decide | omega)) ?_
                first
                  | refine TA.tk 30 2147483647 rfl rfl rfl (Val.addL rfl rfl (by first | omega | (simp <;> omega))) ?_
                  | refine TA.tk 30 2147483647 rfl rfl rfl (Val.addS rfl rfl (by first | decide | omega)) ?_
                refine TA.tk 31 4294967295 rfl rfl rfl (Val.assign rfl) ?_
                refine TA.done (by kernel_rfl) ?_
                refine AtX.join () ?_ (Sub.cons rfl (Sub.cons rfl (Sub.nil _))) (by repeat (first | exact ro_refl | exact ro_pre | refine ro_tail ?_ | refine ro_app ?_))
                trivial
              · skip
                first
                  | refine TO.dz 1064302847 (some 27) rfl rfl rfl rfl (Val.does (Val.b2s (l := [Go.X.b8 kd, Go.X.b8 d.length]) rfl us23 ui5 un9 rfl (.some (Rd.get (i := 0) rfl rfl)))) ?_
                  | refine TO.dz 1064302847 (some 27) rfl rfl rfl rfl (Val.does (Val.b2s (l := [Go.X.b8 kd, Go.X.b8 d.length]) rfl us23 ui5 un9 rfl (.some (Rd.get (i := 1) rfl rfl)))) ?_
                  | refine TO.dz 1064302847 (some 27) rfl rfl rfl rfl (Val.does (Val.b2s (l := [Go.X.b8 kd, Go.X.b8 d.length]) rfl us23 ui5 un9 rfl (.some (Rd.get (i := 2) rfl rfl)))) ?_
                  | refine TO.dz 1064302847 (some 27) rfl rfl rfl rfl (Val.does (Val.b2s (l := [Go.X.b8 kd, Go.X.b8 d.length]) rfl us23 ui5 un9 rfl (.some (Rd.get (i := 3) rfl rfl)))) ?_
                rintro _ _ ⟨rfl, rfl⟩
                refine roK ?_
                refine TA.one 8 (by kernel_rfl) ?_
                refine TO.dz 1064303103 (some 16) rfl rfl rfl rfl (Does.callF go23 rfl (refPut_fn _ _)) ?_
                rintro _ _ ⟨rfl, rfl⟩
                refine roK ?_
                refine TA.tk 9 1064303615 rfl rfl rfl (Val.sliceL (i := 0) (j := 2) rfl un9 rfl rfl rfl rfl (by omega) (by simp)) ?_
                first
                  | refine TA.tk 10 1064304639 rfl rfl rfl (Val.addL rfl rfl (by first | omega | (simp <;> omega))) ?_
                  | refine TA.tk 10 1064304639 rfl rfl rfl (Val.addS rfl rfl (by first | decide | omega)) ?_
                first
                  | refine TA.tk 20 1065353215 rfl rfl rfl (Val.addL rfl rfl (by first | omega | (simp <;> omega))) ?_
                  | refine TA.tk 20 1065353215 rfl rfl rfl (Val.addS rfl rfl (by first | decide | omega)) ?_
                first
                  | refine TA.tk 23 1073741823 rfl rfl rfl (Val.addL rfl rfl (by first | omega | (simp <;> omega))) ?_
                  | refine TA.tk 23 1073741823 rfl rfl rfl (Val.addS rfl rfl (by first | decide | omega)) ?_
                first
                  | refine TA.tk 30 2147483647 rfl rfl rfl (Val.addL rfl rfl (by first | omega | (simp <;> omega))) ?_
                  | refine TA.tk 30 2147483647 rfl rfl rfl (Val.addS rfl rfl (by first | decide | omega)) ?_
                refine TA.tk 31 4294967295 rfl rfl rfl (Val.assign rfl) ?_
                refine TA.done (by kernel_rfl) ?_
                refine AtX.join () ?_ (Sub.cons rfl (Sub.cons rfl (Sub.nil _))) (by repeat (first | exact ro_refl | exact ro_pre | refine ro_tail ?_ | refine ro_app ?_))
                trivial
          · skip
            refine TO.dz 1063778535 (some 26) rfl rfl rfl rfl (Does.buildSlice sl23 sz5 ze5 (by decide) (by decide) rfl rfl rfl) ?_
            rintro _ _ ⟨b106, rfl, rfl⟩
            refine roK ?_
            refine TA.two 3 19 (by kernel_rfl) ?_ ?_
            · skip
              refine TO.dz 1063778543 (some 11) rfl rfl rfl rfl (Does.callF go23 rfl (refPut_fn _ _)) ?_
              rintro _ _ ⟨rfl, rfl⟩
              refine roK ?_
              refine TA.tk 4 1063778559 rfl rfl rfl (Val.sliceL (i := 0) (j := 4) rfl un9 rfl rfl rfl rfl (by omega) (by simp)) ?_
              refine TA.two 8 19 (by kernel_rfl) ?_ ?_
              · skip
                refine TO.dz 1063778815 (some 16) rfl rfl rfl rfl (Does.callF go23 rfl (refPut_fn _ _)) ?_
                rintro _ _ ⟨rfl, rfl⟩
                refine roK ?_
                refine TA.tk 9 1063779327 rfl rfl rfl (Val.sliceL (i := 0) (j := 2) rfl un9 rfl rfl rfl rfl (by omega) (by simp)) ?_
                first
                  | refine TA.tk 10 1063780351 rfl rfl rfl (Val.addL rfl rfl (by first | omega | (simp <;> omega))) ?_
                  | refine TA.tk 10 1063780351 rfl rfl rfl (Val.addS rfl rfl (by first | decide | omega)) ?_
                refine TA.one 19 (by kernel_rfl) ?_
                first
                  | refine TO.dz 1064304639 (some 27) rfl rfl rfl rfl (Val.does (Val.b2s (l := [Go.X.b8 kd, Go.X.b8 d.length]) rfl us23 ui5 un9 rfl (.some (Rd.get (i := 0) rfl rfl)))) ?_
                  | refine TO.dz 1064304639 (some 27) rfl rfl rfl rfl (Val.does (Val.b2s (l := [Go.X.b8 kd, Go.X.b8 d.length]) rfl us23 ui5 un9 rfl (.some (Rd.get (i := 1) rfl rfl)))) ?_
                  | refine TO.dz 1064304639 (some 27) rfl rfl rfl rfl (Val.does (Val.b2s (l := [Go.X.b8 kd, Go.X.b8 d.length]) rfl us23 ui5 un9 rfl (.some (Rd.get (i := 2) rfl rfl)))) ?_
                  | refine TO.dz 1064304639 (some 27) rfl rfl rfl rfl (Val.does (Val.b2s (l := [Go.X.b8 kd, Go.X.b8 d.length]) rfl us23 ui5 un9 rfl (.some (Rd.get (i := 3) rfl rfl)))) ?_
                rintro _ _ ⟨rfl, rfl⟩
                refine roK ?_
                first
                  | refine TA.tk 20 1065353215 rfl rfl rfl (Val.addL rfl rfl (by first | omega | (simp <;> omega))) ?_
                  | refine TA.tk 20 1065353215 rfl rfl rfl (Val.addS rfl rfl (by first | decide | omega)) ?_
                first
                  | refine TA.tk 23 1073741823 rfl rfl rfl (Val.addL rfl rfl (by first | omega | (simp <;> omega))) ?_
                  | refine TA.tk 23 1073741823 rfl rfl rfl (Val.addS rfl rfl (by first | decide | omega)) ?_
                first
                  | refine TA.tk 30 2147483647 rfl rfl rfl (Val.addL rfl rfl (by first | omega | (simp <;> omega))) ?_
                  | refine TA.tk 30 2147483647 rfl rfl rfl (Val.addS rfl rfl (by first | decide | omega)) ?_
                refine TA.tk 31 4294967295 rfl rfl rfl (Val.assign rfl) ?_
                refine TA.done (by kernel_rfl) ?_
                refine AtX.join () ?_ (Sub.cons rfl (Sub.cons rfl (Sub.nil _))) (by repeat (first | exact ro_refl | exact ro_pre | refine ro_tail ?_ | refine ro_app ?_))
                trivial
              · skip
                first
                  | refine TO.dz 1064302847 (some 27) rfl rfl rfl rfl (Val.does (Val.b2s (l := [Go.X.b8 kd, Go.X.b8 d.length]) rfl us23 ui5 un9 rfl (.some (Rd.get (i := 0) rfl rfl)))) ?_
                  | refine TO.dz 1064302847 (some 27) rfl rfl rfl rfl (Val.does (Val.b2s (l := [Go.X.b8 kd, Go.X.b8 d.length]) rfl us23 ui5 un9 rfl (.some (Rd.get (i := 1) rfl rfl)))) ?_
                  | refine TO.dz 1064302847 (some 27) rfl rfl rfl rfl (Val.does (Val.b2s (l := [Go.X.b8 kd, Go.X.b8 d.length]) rfl us23 ui5 un9 rfl (.some (Rd.get (i := 2) rfl rfl)))) ?_
                  | refine TO.dz 1064302847 (some 27) rfl rfl rfl rfl (Val.does (Val.b2s (l := [Go.X.b8 kd, Go.X.b8 d.length]) rfl us23 ui5 un9 rfl (.some (Rd.get (i := 3) rfl rfl)))) ?_
                rintro _ _ ⟨rfl, rfl⟩
                refine roK ?_
                refine TA.one 8 (by kernel_rfl) ?_
                refine TO.dz 1064303103 (some 16) rfl rfl rfl rfl (Does.callF go23 rfl (refPut_fn _ _)) ?_
                rintro _ _ ⟨rfl, rfl⟩
                refine roK ?_
                refine TA.tk 9 1064303615 rfl rfl rfl (Val.sliceL (i := 0) (j := 2) rfl un9 rfl rfl rfl rfl (by omega) (by simp)) ?_
                first
                  | refine TA.tk 10 1064304639 rfl rfl rfl (Val.addL rfl rfl (by first | omega | (simp <;> omega))) ?_
                  | refine TA.tk 10 1064304639 rfl rfl rfl (Val.addS rfl rfl (by first | decide | omega)) ?_
                first
                  | refine TA.tk 20 1065353215 rfl rfl rfl (Val.addL rfl rfl (by first | omega | (simp <;> omega))) ?_
                  | refine TA.tk 20 1065353215 rfl rfl rfl (Val.addS rfl rfl (by first | decide | omega)) ?_
                first
                  | refine TA.tk 23 1073741823 rfl rfl rfl (Val.addL rfl rfl (by first | omega | (simp <;> omega))) ?_
                  | refine TA.tk 23 1073741823 rfl rfl rfl (Val.addS rfl rfl (by first | decide | omega)) ?_
                first
                  | refine TA.tk 30 2147483647 rfl rfl rfl (Val.addL rfl rfl (by first | omega | (simp <;> omega))) ?_
                  | refine TA.tk 30 2147483647 rfl rfl rfl (Val.addS rfl rfl (by first | decide | omega)) ?_
                refine TA.tk 31 4294967295 rfl rfl rfl (Val.assign rfl) ?_
                refine TA.done (by kernel_rfl) ?_
                refine AtX.join () ?_ (Sub.cons rfl (Sub.cons rfl (Sub.nil _))) (by repeat (first | exact ro_refl | exact ro_pre | refine ro_tail ?_ | refine ro_app ?_))
                trivial
            · skip
              first
                | refine TO.dz 1064302823 (some 27) rfl rfl rfl rfl (Val.does (Val.b2s (l := [Go.X.b8 kd, Go.X.b8 d.length]) rfl us23 ui5 un9 rfl (.some (Rd.get (i := 0) rfl rfl)))) ?_
                | refine TO.dz 1064302823 (some 27) rfl rfl rfl rfl (Val.does (Val.b2s (l := [Go.X.b8 kd, Go.X.b8 d.length]) rfl us23 ui5 un9 rfl (.some (Rd.get (i := 1) rfl rfl)))) ?_
                | refine TO.dz 1064302823 (some 27) rfl rfl rfl rfl (Val.does (Val.b2s (l := [Go.X.b8 kd, Go.X.b8 d.length]) rfl us23 ui5 un9 rfl (.some (Rd.get (i := 2) rfl rfl)))) ?_
                | refine TO.dz 1064302823 (some 27) rfl rfl rfl rfl (Val.does (Val.b2s (l := [Go.X.b8 kd, Go.X.b8 d.length]) rfl us23 ui5 un9 rfl (.some (Rd.get (i := 3) rfl rfl)))) ?_
              rintro _ _ ⟨rfl, rfl⟩
              refine roK ?_
              refine TA.one 3 (by kernel_rfl) ?_
              refine TO.dz 1064302831 (some 11) rfl rfl rfl rfl (Does.callF go23 rfl (refPut_fn _ _)) ?_
              rintro _ _ ⟨rfl, rfl⟩
              refine roK ?_
              refine TA.tk 4 1064302847 rfl rfl rfl (Val.sliceL (i := 0) (j := 4) rfl un9 rfl rfl rfl rfl (by omega) (by simp)) ?_
              refine TA.one 8 (by kernel_rfl) ?_
              refine TO.dz 1064303103 (some 16) rfl rfl rfl rfl (Does.callF go23 rfl (refPut_fn _ _)) ?_
              rintro _ _ ⟨rfl, rfl⟩
              refine roK ?_
              refine TA.tk 9 1064303615 rfl rfl rfl (Val.sliceL (i := 0) (j := 2) rfl un9 rfl rfl rfl rfl (by omega) (by simp)) ?_
              first
                | refine TA.tk 10 1064304639 rfl rfl rfl (Val.addL rfl rfl (by first | omega | (simp <;> omega))) ?_
                | refine TA.tk 10 1064304639 rfl rfl rfl (Val.addS rfl rfl (by first | decide | omega)) ?_
              first
                | refine TA.tk 20 1065353215 rfl rfl rfl (Val.addL rfl rfl (by first | omega | (simp <;> omega))) ?_
                | refine TA.tk 20 1065353215 rfl rfl rfl (Val.addS rfl rfl (by first | decide | omega)) ?_
              first
                | refine TA.tk 23 1073741823 rfl rfl rfl (Val.addL rfl rfl (by first | omega | (simp <;> omega))) ?_
                | refine TA.tk 23 1073741823 rfl rfl rfl (Val.addS rfl rfl (by first | decide | omega)) ?_
              first
                | refine TA.tk 30 2147483647 rfl rfl rfl (Val.addL rfl rfl (by first | omega | (simp <;> omega))) ?_
                | refine TA.tk 30 2147483647 rfl rfl rfl (Val.addS rfl rfl (by first | decide | omega)) ?_
              refine TA.tk 31 4294967295 rfl rfl rfl (Val.assign rfl) ?_
              refine TA.done (by kernel_rfl) ?_
              refine AtX.join () ?_ (Sub.cons rfl (Sub.cons rfl (Sub.nil _))) (by repeat (first | exact ro_refl | exact ro_pre | refine ro_tail ?_ | refine ro_app ?_))
              trivial
    · intro _ _
      rw [body_ref ⟨hl1, hl2⟩]
      have hbl := bodyB_len p pl kd d hd
      have hsb := sumTo_bd (bodyB p pl kd d) (bodyB p pl kd d).length (by omega)
      have hsb2 : sum18 (bodyB p pl kd d) ≤ 256000000 := hsb
      refine TC.seq ?_
      refine TC.drawL ((b1, .cells #[.int .u32 p, .int .i64 pl, .int .i64 kd, .string (ofL d)] 28 (0, 0)) :: M) mixed 15 ?_
      refine TA.tk 0 1 rfl rfl rfl (Val.move rfl) ?_
      refine TA.tk 1 3 rfl rfl rfl (Val.move rfl) ?_
      refine TA.tk 7 131 rfl rfl rfl (Val.fieldAddr rfl fl28_0 sz22 rfl) ?_
      first
        | refine TA.tk 8 387 rfl rfl rfl (Val.load 0 rfl ag22 rfl rfl) ?_
        | refine TA.tk 8 387 rfl rfl rfl (Val.load 1 rfl ag22 rfl rfl) ?_
        | refine TA.tk 8 387 rfl rfl rfl (Val.load 2 rfl ag22 rfl rfl) ?_
        | refine TA.tk 8 387 rfl rfl rfl (Val.load 3 rfl ag22 rfl rfl) ?_
        | refine TA.tk 8 387 rfl rfl rfl (Val.load 4 rfl ag22 rfl rfl) ?_
        | refine TA.tk 8 387 rfl rfl rfl (Val.load 5 rfl ag22 rfl rfl) ?_
      refine TA.one 2 (by kernel_rfl) ?_
      refine TO.dz 391 (some 41) rfl rfl rfl rfl (Does.callF go20 rfl (refSum_fn (bodyB p pl kd d) _ (by rw [hbl]; omega))) ?_
      rintro _ _ ⟨rfl, rfl⟩
      refine roK ?_
      first
        | refine TA.tk 3 399 rfl rfl rfl (Val.convI rfl iu22 in55 (w_u64 (by omega) (by omega))) ?_
        | refine TA.tk 3 399 rfl rfl rfl (Val.convI rfl iu22 in55 rfl) ?_
      refine TA.one 4 (by kernel_rfl) ?_
      refine TO.dz 415 (some 43) rfl rfl rfl rfl (Does.callF go23 rfl (refPut_fn _ _)) ?_
      rintro _ _ ⟨rfl, rfl⟩
      refine roK ?_
      refine TA.tk 5 447 rfl rfl rfl (Val.sliceL (i := 0) (j := 4) rfl un9 rfl rfl rfl rfl (by omega) (by simp)) ?_
      first
        | refine TA.tk 6 511 rfl rfl rfl (Val.addL rfl rfl (by first | omega | (simp <;> omega))) ?_
        | refine TA.tk 6 511 rfl rfl rfl (Val.addS rfl rfl (by first | decide | omega)) ?_
      refine TA.one 9 (by kernel_rfl) ?_
      refine TO.dz 1023 (some 48) rfl rfl rfl rfl (Does.callF go18 rfl (refMark_fn _ _)) ?_
      rintro _ _ ⟨rfl, rfl⟩
      refine roK ?_
      refine TA.one 10 (by kernel_rfl) ?_
      refine TO.dz 2047 (some 49) rfl rfl rfl rfl (Does.buildSlice sl23 sz5 ze5 (by decide) (by decide) rfl rfl rfl) ?_
      rintro _ _ ⟨b115, rfl, rfl⟩
      refine roK ?_
      refine TA.one 11 (by kernel_rfl) ?_
      refine TO.dz 4095 (some 50) rfl rfl rfl rfl (Val.does (Val.b2s (l := [0, 0, 0, markB p]) rfl us23 ui5 un9 rfl (.some (Rd.get (i := 0) rfl rfl)))) ?_
      rintro _ _ ⟨rfl, rfl⟩
      refine roK ?_
      first
        | refine TA.tk 12 8191 rfl rfl rfl (Val.addL rfl rfl (by first | omega | (simp <;> omega))) ?_
        | refine TA.tk 12 8191 rfl rfl rfl (Val.addS rfl rfl (by first | decide | omega)) ?_
      refine TA.tk 13 16383 rfl rfl rfl (Val.assign rfl) ?_
      refine TA.tk 14 32767 rfl rfl rfl (Val.assign rfl) ?_
      refine TA.done (by kernel_rfl) ?_
      refine AtX.then ?_
      refine TC.env (E' := [(2, _), (3, _)]) (Sub.cons rfl (Sub.cons rfl (Sub.nil _))) ?_
      refine TC.ret2 (fn := Try.f11) (fun _ _ h => h) rfl (RV.tmp rfl) (RV.tmp rfl) (M' := M) (by repeat (first | exact ro_refl | exact ro_pre | refine ro_tail ?_ | refine ro_app ?_)) ?_
      rw [cell_ref]
      exact ⟨rfl, rfl⟩

/-- quorumite/quorumiteref17.PutCell -/
theorem PutCell_no (p pl kd : Int) (d : List UInt8) (M : Hp) (hm : mayC p pl kd d.length = false) : FnC Try.prog 11 #[.agg #[.int .u32 p, .int .i64 pl, .int .i64 kd, .string (ofL d)]] M (fun v M' => v = .tuple #[.string (ofL []), .int .i64 1] ∧ M = M') := by
  refine FnC.intro Try.func11 rfl 52 rfl (by simp) (fun z => ?_)
  refine TC.env (E' := [(0, _)]) (Sub.cons rfl (Sub.nil _)) ?_
  refine TC.seq ?_
  refine TC.region ?_
  refine TL.does (some 1) rfl rfl rfl (Does.box rfl rfl) ?_
  rintro _ _ ⟨b1, rfl, rfl⟩
  refine TL.val rfl rfl (Nat.le_of_ble_eq_true rfl) (Val.assign rfl) ?_
  refine TL.val rfl rfl (Nat.le_of_ble_eq_true rfl) (Val.assign rfl) ?_
  refine TL.nil ?_
  refine AtX.then ?_
  refine TC.env (E' := [(1, _), (2, _), (3, _)]) (Sub.cons rfl (Sub.cons rfl (Sub.cons rfl (Sub.nil _)))) ?_
  refine TC.seq ?_
  refine TC.seq ?_
  refine TC.region ?_
  first
    | refine TL.val rfl rfl (Nat.le_of_ble_eq_true rfl) (Val.loadAgg 0 rfl ag28 sz28 rfl rfl rfl) ?_
    | refine TL.val rfl rfl (Nat.le_of_ble_eq_true rfl) (Val.loadAgg 1 rfl ag28 sz28 rfl rfl rfl) ?_
    | refine TL.val rfl rfl (Nat.le_of_ble_eq_true rfl) (Val.loadAgg 2 rfl ag28 sz28 rfl rfl rfl) ?_
    | refine TL.val rfl rfl (Nat.le_of_ble_eq_true rfl) (Val.loadAgg 3 rfl ag28 sz28 rfl rfl rfl) ?_
    | refine TL.val rfl rfl (Nat.le_of_ble_eq_true rfl) (Val.loadAgg 4 rfl ag28 sz28 rfl rfl rfl) ?_
    | refine TL.val rfl rfl (Nat.le_of_ble_eq_true rfl) (Val.loadAgg 5 rfl ag28 sz28 rfl rfl rfl) ?_
  refine TL.does (some 6) rfl rfl rfl (Does.callF go15 rfl (MayCell_fn _ _ _ _ _)) ?_
  rintro _ _ ⟨rfl, rfl⟩
  refine TL.val rfl rfl (Nat.le_of_ble_eq_true rfl) (Val.not rfl) ?_
  refine TL.nil ?_
  refine AtX.then ?_
  refine TC.env (E' := [(1, _), (2, _), (3, _), (7, _)]) (Sub.cons rfl (Sub.cons rfl (Sub.cons rfl (Sub.cons rfl (Sub.nil _))))) ?_
  first | refine TC.condP rfl (fun c1 => ?_) (fun c1 => ?_) | refine TC.condN rfl (fun c1 => ?_) (fun c1 => ?_) | refine TC.condB rfl (fun c1 => ?_) (fun c1 => ?_) | refine TC.cond rfl (fun c1 => ?_) (fun c1 => ?_)
  · skip
    refine TC.env (E' := [(1, _), (2, _), (3, _)]) (Sub.cons rfl (Sub.cons rfl (Sub.cons rfl (Sub.nil _)))) ?_
    refine TC.seq ?_
    refine TC.region ?_
    refine TL.val rfl rfl (Nat.le_of_ble_eq_true rfl) (Val.assign rfl) ?_
    refine TL.val rfl rfl (Nat.le_of_ble_eq_true rfl) (Val.assign rfl) ?_
    refine TL.nil ?_
    refine AtX.then ?_
    refine TC.env (E' := [(1, _), (2, _), (3, _)]) (Sub.cons rfl (Sub.cons rfl (Sub.cons rfl (Sub.nil _)))) ?_
    refine TC.ret2 (fn := Try.f11) (fun _ _ h => h) rfl (RV.tmp rfl) (RV.tmp rfl) (M' := M) (by repeat (first | exact ro_refl | exact ro_pre | refine ro_tail ?_ | refine ro_app ?_)) ?_
    exact ⟨rfl, rfl⟩
  · skip
    rw [hm] at c1; cases c1

end Go.Proofs.Ytbjjjapdioegpaa
