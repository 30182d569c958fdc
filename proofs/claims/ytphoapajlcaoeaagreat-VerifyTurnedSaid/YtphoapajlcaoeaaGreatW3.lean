/- Texts put together: A35, A50, A51, A52, A53. -/
import Derived.Test.YtphoapajlcaoeaaGreatW2
import Derived.Test.YtphoapajlcaoeaaGreatG2
import Derived.Test.YtphoapajlcaoeaaGreatG1
import Derived.Test.YtphoapajlcaoeaaGreatFB
/- walks -/
set_option linter.unusedVariables false
set_option linter.unusedSimpArgs false
set_option maxRecDepth 100000
set_option maxHeartbeats 4000000
namespace Go.Proofs.YtphoapajlcaoeaaGreat
open Go Go.X
theorem chk0 {a b c d e : Bool} (h1 : a = true) (h2 : b = true) (h3 : c = true) (h4 : d = false) (h5 : e = true) : chkC a b c d e = 0 := by subst h1 h2 h3 h4 h5; rfl
theorem chk7 {a b c d e : Bool} (h1 : a = true) (h2 : b = true) (h3 : c = true) (h4 : d = true) : chkC a b c d e = 7 := by subst h1 h2 h3 h4; rfl
theorem chk6 {a b c d e : Bool} (h1 : a = true) (h2 : b = true) (h3 : c = false) : chkC a b c d e = 6 := by subst h1 h2 h3; rfl
theorem chk5 {a b c d e : Bool} (h1 : a = true) (h2 : b = false) : chkC a b c d e = 5 := by subst h1 h2; rfl
theorem set_40 (k : K2) (m : Ms) (c : UInt8) : (sealB k m).set 40 c = putM m ++ (tagB (tagOf k (putM m))).set 8 c := by
 rw [sealB, List.set_append_right _ _ (by simp)]; simp
theorem turned_ne (k : K2) (m : Ms) : (sealB k m).getD 40 0 ^^^ 1 ≠ (tagB (tagOf k (putM m))).getD 8 0 := by
 have e : (sealB k m).getD 40 0 = (tagB (tagOf k (putM m))).getD 8 0 := by
  rw [sealB, List.getD_eq_getElem?_getD, List.getElem?_append_right (by simp), List.getD_eq_getElem?_getD]; simp
 rw [e]
 exact xor8_ne (by decide)
/-- quorumite/quorumitelaw8.told -/
theorem told8_fn (M : Hp) : FnC Tryz.prog 12 #[] M (fun v M' => v = .bool true ∧ M = M') := by
 refine FnC.intro Tryz.func12 rfl 174 rfl (by simp) (fun z => ?_)
 refine TC.en (E' := []) ?_
 refine TC.sr ?_
 refine TL.v (Val.assign rfl) ?_
 refine TL.nt ?_
 refine TC.sr ?_
 refine TL.d (Does.callF go44 rfl (Default_fn _)) ?_
 rintro _ _ ⟨rfl, rfl⟩
 refine TL.d (Does.callF go6 rfl (gNew_fn cfD 4 _ okD rfl)) ?_
 rintro _ _ ⟨gb, rb, lb, nb, cn, sn, ob, co, so, nws, ols, rfl, hnl, hol, rfl⟩
 obtain ⟨n0, n1, n2, n3, rfl⟩ := list4 hnl
 obtain ⟨o0, o1, o2, o3, rfl⟩ := list4 hol
 refine TL.heap (M' := gateO gb cfD rb (some ⟨nb, 0, none⟩) 4 cn (some ⟨ob, 0, none⟩) 4 co 0 :: ringO rb cfD.seed lb 4 cfD.grace 0 :: (lb, row 127 (([⟨0, 0⟩, ⟨0, 0⟩, ⟨0, 0⟩, ⟨0, 0⟩] : List On).flatMap On.cs)) :: (nb, row 62 (([n0, n1, n2, n3] : List Nat).map pp ++ sn)) :: (ob, row 62 (([o0, o1, o2, o3] : List Nat).map pp ++ so)) :: (repO n0 cfD.window 0 0 0 :: repO n1 cfD.window 0 0 0 :: repO n2 cfD.window 0 0 0 :: repO n3 cfD.window 0 0 0 :: repO o0 cfD.window 0 0 0 :: repO o1 cfD.window 0 0 0 :: repO o2 cfD.window 0 0 0 :: repO o3 cfD.window 0 0 0 :: M)) (fun w h => h) ?_
 refine TL.v (Val.assign rfl) ?_
 refine TL.nt ?_
 refine TC.en (E' := [(0, _), (1, _)]) ?_
 refine TC.sr ?_
 refine TL.d (Does.callF go8 rfl (sNew_fn 1 2 _ ⟨by decide, by decide⟩)) ?_
 rintro _ _ ⟨sb, rfl, rfl⟩
 refine TL.heap (M' := gateO gb cfD rb (some ⟨nb, 0, none⟩) 4 cn (some ⟨ob, 0, none⟩) 4 co 0 :: ringO rb cfD.seed lb 4 cfD.grace 0 :: (lb, row 127 (([⟨0, 0⟩, ⟨0, 0⟩, ⟨0, 0⟩, ⟨0, 0⟩] : List On).flatMap On.cs)) :: (nb, row 62 (([n0, n1, n2, n3] : List Nat).map pp ++ sn)) :: (ob, row 62 (([o0, o1, o2, o3] : List Nat).map pp ++ so)) :: (sobj sb 1 2 0 0 :: repO n0 cfD.window 0 0 0 :: repO n1 cfD.window 0 0 0 :: repO n2 cfD.window 0 0 0 :: repO n3 cfD.window 0 0 0 :: repO o0 cfD.window 0 0 0 :: repO o1 cfD.window 0 0 0 :: repO o2 cfD.window 0 0 0 :: repO o3 cfD.window 0 0 0 :: M)) (fun w h => ro_mv (A := [_]) (L := [_, _, _, _, _]) w h) ?_
 refine TL.v (Val.assign rfl) ?_
 refine TL.nt ?_
 refine TC.en (E' := [(0, _), (1, _), (2, _)]) ?_
 refine TC.seq ?_
 refine TC.sr ?_
 refine TL.v (Val.move rfl) ?_
 refine TL.v (Val.eqlNil rfl rfl pt28) ?_
 refine TL.v (Val.move rfl) ?_
 refine TL.vy (Val.move rfl) ?_
 refine TL.vy (Val.eqlNil rfl rfl pt32) ?_
 refine TL.v (Val.pickOr rfl rfl rfl) ?_
 refine TL.nt ?_
 refine TC.en (E' := [(0, _), (1, _), (2, _), (32, _)]) ?_
 refine TC.cond rfl (fun c1 => ?_) (fun c1 => ?_)
 ·
  (exfalso; simp at c1)
 ·
  refine TC.en (E' := [(0, _), (1, _), (2, _)]) ?_
  refine TC.skip ?_
  refine AtX.then ?_
  refine TC.en (E' := [(0, _), (1, _), (2, _)]) ?_
  refine TC.sr ?_
  refine TL.v (Val.move rfl) ?_
  refine TL.d (Does.callF go9 rfl (sSample_fn sb 5 1 2 0 0 0 1 9 _ rfl (by decide))) ?_
  rintro _ _ ⟨bE, cE, spE, rfl, hcE, rfl⟩
  refine TL.heap (M' := gateO gb cfD rb (some ⟨nb, 0, none⟩) 4 cn (some ⟨ob, 0, none⟩) 4 co 0 :: ringO rb cfD.seed lb 4 cfD.grace 0 :: (lb, row 127 (([⟨0, 0⟩, ⟨0, 0⟩, ⟨0, 0⟩, ⟨0, 0⟩] : List On).flatMap On.cs)) :: (nb, row 62 (([n0, n1, n2, n3] : List Nat).map pp ++ sn)) :: (ob, row 62 (([o0, o1, o2, o3] : List Nat).map pp ++ so)) :: ((bE, row 5 (bv (sealB (macKey 1 2 0) ⟨1, (2 : Nat), 0, 1, 1, 9, 0⟩) ++ spE)) :: sobj sb 1 2 0 1 :: repO n0 cfD.window 0 0 0 :: repO n1 cfD.window 0 0 0 :: repO n2 cfD.window 0 0 0 :: repO n3 cfD.window 0 0 0 :: repO o0 cfD.window 0 0 0 :: repO o1 cfD.window 0 0 0 :: repO o2 cfD.window 0 0 0 :: repO o3 cfD.window 0 0 0 :: M)) (fun w h => ro_mv (A := [_]) (L := [_, _, _, _, _]) w h) ?_
  refine TL.v (Val.move rfl) ?_
  refine TL.v (Val.extract rfl rfl) ?_
  refine TL.v (Val.extract rfl rfl) ?_
  refine TL.v (Val.assign rfl) ?_
  refine TL.v (Val.assign rfl) ?_
  refine TL.nt ?_
  refine TC.en (E' := [(0, _), (1, _), (2, _), (3, _)]) ?_
  refine TC.sr ?_
  refine TL.v (Val.move rfl) ?_
  refine TL.v (Val.move rfl) ?_
  refine TL.d (Does.callF go10 rfl ((Check_nil gb rb lb nb cn ob co sn so cfD 4 0 0 ([⟨0, 0⟩, ⟨0, 0⟩, ⟨0, 0⟩, ⟨0, 0⟩] : List On) ([n0, n1, n2, n3] : List Nat) ([o0, o1, o2, o3] : List Nat) ((bE, row 5 (bv (sealB (macKey 1 2 0) ⟨1, (2 : Nat), 0, 1, 1, 9, 0⟩) ++ spE)) :: sobj sb 1 2 0 1 :: repO n0 cfD.window 0 0 0 :: repO n1 cfD.window 0 0 0 :: repO n2 cfD.window 0 0 0 :: repO n3 cfD.window 0 0 0 :: repO o0 cfD.window 0 0 0 :: repO o1 cfD.window 0 0 0 :: repO o2 cfD.window 0 0 0 :: repO o3 cfD.window 0 0 0 :: M) rfl rfl rfl rfl ⟨by decide, by decide⟩ ⟨by decide, by decide⟩ 2 ⟨0, 0⟩ rfl ⟨by decide, by decide⟩ ⟨by decide, by decide⟩ 1 0 1 1 9 0 ⟨by decide, by decide⟩ (by decide) 0 okD n2 o2 rfl rfl 4 0 0 0 ⟨by decide, by decide⟩ rfl ⟨by decide, by decide⟩ (by decide) ⟨by decide, by decide⟩ (tagB (tagOf (macKey 1 2 0) (putM ⟨1, (2 : Nat), 0, 1, 1, 9, 0⟩))) (some ⟨bE, 0, none⟩) cE (rd_all (i := 0) (sp := spE) rfl) (by omega) (by simp)).mono (fun v M' h => h.elim (fun h => And.intro h.2.1 h.2.2) (fun h => False.elim (h.1 (chk0 rfl (decide_eq_true (same_yes (tagOf_bd (macKey 1 2 0) (putM ⟨1, (2 : Nat), 0, 1, 1, 9, 0⟩)).1 (tagOf_bd (macKey 1 2 0) (putM ⟨1, (2 : Nat), 0, 1, 1, 9, 0⟩)).2)) (by decide +kernel) (by decide) (by decide))))))) ?_
  rintro _ _ ⟨rfl, rfl⟩
  refine TL.v (Val.move rfl) ?_
  refine TL.v (Val.extract rfl rfl) ?_
  refine TL.v (Val.extract rfl rfl) ?_
  refine TL.d (Does.alloc ze39 rfl) ?_
  rintro _ _ ⟨b5_, rfl, rfl⟩
  refine TL.d (Does.store (i := 0) rfl rfl rfl sz39 rfl rfl (by first | exact Nat.le_of_ble_eq_true rfl | decide | omega) rfl rfl) ?_
  rintro _ _ ⟨rfl, rfl⟩
  refine TL.v (Val.assign rfl) ?_
  refine TL.nt ?_
  refine TC.en (E' := [(0, _), (1, _), (2, _), (3, _), (5, _), (6, _)]) ?_
  refine TC.seq ?_
  refine TC.heap (M' := gateO gb cfD rb (some ⟨nb, 0, none⟩) 4 cn (some ⟨ob, 0, none⟩) 4 co 0 :: ringO rb cfD.seed lb 4 cfD.grace 1 :: (lb, row 127 (([⟨0, 0⟩, ⟨0, 0⟩, ⟨0, 0⟩, ⟨0, 0⟩] : List On).flatMap On.cs)) :: (nb, row 62 (([n0, n1, n2, n3] : List Nat).map pp ++ sn)) :: (ob, row 62 (([o0, o1, o2, o3] : List Nat).map pp ++ so)) :: ((b5_, .cells #[.int .i64 1, .int .i64 2, .int .i64 0, .int .i64 1, .int .i64 1, .int .i64 9, .int .i64 0] 39 (0, 0)) :: (bE, row 5 (bv (sealB (macKey 1 2 0) ⟨1, (2 : Nat), 0, 1, 1, 9, 0⟩) ++ spE)) :: sobj sb 1 2 0 1 :: repO n0 cfD.window 0 0 0 :: repO n1 cfD.window 0 0 0 :: repO n2 cfD.window 0 0 0 :: repO n3 cfD.window 0 0 0 :: repO o0 cfD.window 0 0 0 :: repO o1 cfD.window 0 0 0 :: repO o2 cfD.window 0 0 0 :: repO o3 cfD.window 0 0 0 :: M)) (fun w h => ro_mv (A := [_]) (L := [_, _, _, _, _]) w h) ?_
  refine TC.region ?_
  refine TL.v (Val.move rfl) ?_
  refine TL.v (Val.move rfl) ?_
  refine TL.d (Does.callF go10 rfl ((Check_nil gb rb lb nb cn ob co sn so cfD 4 1 0 ([⟨0, 0⟩, ⟨0, 0⟩, ⟨0, 0⟩, ⟨0, 0⟩] : List On) ([n0, n1, n2, n3] : List Nat) ([o0, o1, o2, o3] : List Nat) ((b5_, .cells #[.int .i64 1, .int .i64 2, .int .i64 0, .int .i64 1, .int .i64 1, .int .i64 9, .int .i64 0] 39 (0, 0)) :: (bE, row 5 (bv (sealB (macKey 1 2 0) ⟨1, (2 : Nat), 0, 1, 1, 9, 0⟩) ++ spE)) :: sobj sb 1 2 0 1 :: repO n0 cfD.window 0 0 0 :: repO n1 cfD.window 0 0 0 :: repO n2 cfD.window 0 0 0 :: repO n3 cfD.window 0 0 0 :: repO o0 cfD.window 0 0 0 :: repO o1 cfD.window 0 0 0 :: repO o2 cfD.window 0 0 0 :: repO o3 cfD.window 0 0 0 :: M) rfl rfl rfl rfl ⟨by decide, by decide⟩ ⟨by decide, by decide⟩ 2 ⟨0, 0⟩ rfl ⟨by decide, by decide⟩ ⟨by decide, by decide⟩ 1 0 1 1 9 0 ⟨by decide, by decide⟩ (by decide) 2 okD n2 o2 rfl rfl 5 0 0 0 ⟨by decide, by decide⟩ rfl ⟨by decide, by decide⟩ (by decide) ⟨by decide, by decide⟩ (tagB (tagOf (macKey 1 2 0) (putM ⟨1, (2 : Nat), 0, 1, 1, 9, 0⟩))) (some ⟨bE, 0, none⟩) cE (rd_all (i := 1) (sp := spE) rfl) (by omega) (by simp)).mono (fun v M' h => h.elim (fun h => absurd (h.1.symm.trans (chk7 rfl (decide_eq_true (same_yes (tagOf_bd (macKey 1 2 0) (putM ⟨1, (2 : Nat), 0, 1, 1, 9, 0⟩)).1 (tagOf_bd (macKey 1 2 0) (putM ⟨1, (2 : Nat), 0, 1, 1, 9, 0⟩)).2)) (by decide +kernel) (by decide))) (by decide)) (fun h => And.intro (h.2.1.trans (congrArg (fun q => Value.tuple #[.agg #[.int .i64 0, .int .i64 0, .int .i64 0, .int .i64 0, .int .i64 0, .int .i64 0, .int .i64 0], .int .i64 q]) (chk7 rfl (decide_eq_true (same_yes (tagOf_bd (macKey 1 2 0) (putM ⟨1, (2 : Nat), 0, 1, 1, 9, 0⟩)).1 (tagOf_bd (macKey 1 2 0) (putM ⟨1, (2 : Nat), 0, 1, 1, 9, 0⟩)).2)) (by decide +kernel) (by decide)))) h.2.2)))) ?_
  rintro _ _ ⟨rfl, rfl⟩
  refine TL.v (Val.move rfl) ?_
  refine TL.v (Val.extract rfl rfl) ?_
  refine TL.v (Val.extract rfl rfl) ?_
  refine TL.d (Does.alloc ze39 rfl) ?_
  rintro _ _ ⟨b7, rfl, rfl⟩
  refine TL.d (Does.store (i := 0) rfl rfl rfl sz39 rfl rfl (by first | exact Nat.le_of_ble_eq_true rfl | decide | omega) rfl rfl) ?_
  rintro _ _ ⟨rfl, rfl⟩
  refine TL.v (Val.assign rfl) ?_
  refine TL.nt ?_
  refine TC.en (E' := [(0, _), (1, _), (2, _), (3, _), (5, _), (6, _), (8, _)]) ?_
  refine TC.seq ?_
  refine TC.heap (M' := gateO gb cfD rb (some ⟨nb, 0, none⟩) 4 cn (some ⟨ob, 0, none⟩) 4 co 1 :: ringO rb cfD.seed lb 4 cfD.grace 2 :: (lb, row 127 (([⟨0, 0⟩, ⟨0, 0⟩, ⟨0, 0⟩, ⟨0, 0⟩] : List On).flatMap On.cs)) :: (nb, row 62 (([n0, n1, n2, n3] : List Nat).map pp ++ sn)) :: (ob, row 62 (([o0, o1, o2, o3] : List Nat).map pp ++ so)) :: ((b5_, .cells #[.int .i64 1, .int .i64 2, .int .i64 0, .int .i64 1, .int .i64 1, .int .i64 9, .int .i64 0] 39 (0, 0)) :: (bE, row 5 (bv (sealB (macKey 1 2 0) ⟨1, (2 : Nat), 0, 1, 1, 9, 0⟩) ++ spE)) :: sobj sb 1 2 0 1 :: repO n0 cfD.window 0 0 0 :: repO n1 cfD.window 0 0 0 :: repO n2 cfD.window 0 0 0 :: repO n3 cfD.window 0 0 0 :: repO o0 cfD.window 0 0 0 :: repO o1 cfD.window 0 0 0 :: repO o2 cfD.window 0 0 0 :: repO o3 cfD.window 0 0 0 :: M)) (fun w h => h.drop) ?_
  refine TC.region ?_
  refine TL.v (Val.move rfl) ?_
  refine TL.v (Val.move rfl) ?_
  refine TL.d (Does.callF go10 rfl (Check_two gb rb lb nb cn ob co sn so cfD 4 2 1 ([⟨0, 0⟩, ⟨0, 0⟩, ⟨0, 0⟩, ⟨0, 0⟩] : List On) ([n0, n1, n2, n3] : List Nat) ([o0, o1, o2, o3] : List Nat) ((b5_, .cells #[.int .i64 1, .int .i64 2, .int .i64 0, .int .i64 1, .int .i64 1, .int .i64 9, .int .i64 0] 39 (0, 0)) :: (bE, row 5 (bv (sealB (macKey 1 2 0) ⟨1, (2 : Nat), 0, 1, 1, 9, 0⟩) ++ spE)) :: sobj sb 1 2 0 1 :: repO n0 cfD.window 0 0 0 :: repO n1 cfD.window 0 0 0 :: repO n2 cfD.window 0 0 0 :: repO n3 cfD.window 0 0 0 :: repO o0 cfD.window 0 0 0 :: repO o1 cfD.window 0 0 0 :: repO o2 cfD.window 0 0 0 :: repO o3 cfD.window 0 0 0 :: M) rfl rfl rfl rfl ⟨by decide, by decide⟩ ⟨by decide, by decide⟩ 2 ⟨0, 0⟩ rfl ⟨by decide, by decide⟩ ⟨by decide, by decide⟩ 1 0 1 1 9 0 ⟨by decide, by decide⟩ (by decide) 0 okD n2 o2 rfl rfl 5 0 0 0 ⟨by decide, by decide⟩ rfl ⟨by decide, by decide⟩ (by decide) ⟨by decide, by decide⟩ (tagB (tagOf (macKey 1 2 0) (putM ⟨1, (2 : Nat), 0, 1, 1, 9, 0⟩))) (some ⟨bE, 0, none⟩) cE (rd_all (i := 1) (sp := spE) rfl) (by omega) (by simp) rfl)) ?_
  rintro _ _ ⟨rfl, rfl⟩
  refine TL.v (Val.move rfl) ?_
  refine TL.v (Val.extract rfl rfl) ?_
  refine TL.v (Val.extract rfl rfl) ?_
  refine TL.d (Does.alloc ze39 rfl) ?_
  rintro _ _ ⟨b9, rfl, rfl⟩
  refine TL.d (Does.store (i := 0) rfl rfl rfl sz39 rfl rfl (by first | exact Nat.le_of_ble_eq_true rfl | decide | omega) rfl rfl) ?_
  rintro _ _ ⟨rfl, rfl⟩
  refine TL.v (Val.assign rfl) ?_
  refine TL.nt ?_
  refine TC.en (E' := [(0, _), (1, _), (2, _), (3, _), (5, _), (6, _), (8, _), (10, _)]) ?_
  refine TC.seq ?_
  refine TC.heap (M' := gateO gb cfD rb (some ⟨nb, 0, none⟩) 4 cn (some ⟨ob, 0, none⟩) 4 co 2 :: ringO rb cfD.seed lb 4 cfD.grace 2 :: (lb, row 127 (([⟨0, 0⟩, ⟨0, 0⟩, ⟨0, 0⟩, ⟨0, 0⟩] : List On).flatMap On.cs)) :: (nb, row 62 (([n0, n1, n2, n3] : List Nat).map pp ++ sn)) :: (ob, row 62 (([o0, o1, o2, o3] : List Nat).map pp ++ so)) :: ((b5_, .cells #[.int .i64 1, .int .i64 2, .int .i64 0, .int .i64 1, .int .i64 1, .int .i64 9, .int .i64 0] 39 (0, 0)) :: (bE, row 5 (bv (sealB (macKey 1 2 0) ⟨1, (2 : Nat), 0, 1, 1, 9, 0⟩) ++ spE)) :: sobj sb 1 2 0 1 :: repO n0 cfD.window 0 0 0 :: repO n1 cfD.window 0 0 0 :: repO n2 cfD.window 0 0 0 :: repO n3 cfD.window 0 0 0 :: repO o0 cfD.window 0 0 0 :: repO o1 cfD.window 0 0 0 :: repO o2 cfD.window 0 0 0 :: repO o3 cfD.window 0 0 0 :: M)) (fun w h => h.drop) ?_
  refine TC.region ?_
  refine TL.v (Val.move rfl) ?_
  refine TL.v (Val.loadAgg 5 rfl ag39 sz39 rfl rfl rfl) ?_
  refine TL.d (Does.callF go18 rfl (Take_s gb rb lb nb cn ob co sn so cfD 4 2 2 ([⟨0, 0⟩, ⟨0, 0⟩, ⟨0, 0⟩, ⟨0, 0⟩] : List On) ([n0, n1, n2, n3] : List Nat) ([o0, o1, o2, o3] : List Nat) ((b5_, .cells #[.int .i64 1, .int .i64 2, .int .i64 0, .int .i64 1, .int .i64 1, .int .i64 9, .int .i64 0] 39 (0, 0)) :: (bE, row 5 (bv (sealB (macKey 1 2 0) ⟨1, (2 : Nat), 0, 1, 1, 9, 0⟩) ++ spE)) :: sobj sb 1 2 0 1 :: repO n0 cfD.window 0 0 0 :: repO n1 cfD.window 0 0 0 :: repO n2 cfD.window 0 0 0 :: repO n3 cfD.window 0 0 0 :: repO o0 cfD.window 0 0 0 :: repO o1 cfD.window 0 0 0 :: repO o2 cfD.window 0 0 0 :: repO o3 cfD.window 0 0 0 :: M) rfl rfl rfl rfl ⟨by decide, by decide⟩ ⟨by decide, by decide⟩ 2 ⟨0, 0⟩ rfl ⟨by decide, by decide⟩ ⟨by decide, by decide⟩ 1 0 1 1 9 0 ⟨by decide, by decide⟩ (by decide) 0 okD n2 o2 rfl rfl 5 0 0 0 ⟨by decide, by decide⟩ rfl ⟨by decide, by decide⟩ (by decide) rfl (by decide) rfl (by decide +kernel))) ?_
  rintro _ _ ⟨rfl, rfl⟩
  refine TL.heap (M' := gateO gb cfD rb (some ⟨nb, 0, none⟩) 4 cn (some ⟨ob, 0, none⟩) 4 co 2 :: ringO rb cfD.seed lb 4 cfD.grace 3 :: (lb, row 127 (([⟨0, 0⟩, ⟨0, 0⟩, ⟨0, 0⟩, ⟨0, 0⟩] : List On).flatMap On.cs)) :: (nb, row 62 (([n0, n1, n2, n3] : List Nat).map pp ++ sn)) :: (ob, row 62 (([o0, o1, o2, o3] : List Nat).map pp ++ so)) :: ((b5_, .cells #[.int .i64 1, .int .i64 2, .int .i64 0, .int .i64 1, .int .i64 1, .int .i64 9, .int .i64 0] 39 (0, 0)) :: (bE, row 5 (bv (sealB (macKey 1 2 0) ⟨1, (2 : Nat), 0, 1, 1, 9, 0⟩) ++ spE)) :: sobj sb 1 2 0 1 :: repO n0 cfD.window 0 0 0 :: repO n1 cfD.window 0 0 0 :: repO n2 cfD.window 1 (nextB cfD.window 0) 0 :: repO n3 cfD.window 0 0 0 :: repO o0 cfD.window 0 0 0 :: repO o1 cfD.window 0 0 0 :: repO o2 cfD.window 0 0 0 :: repO o3 cfD.window 0 0 0 :: M)) (fun w h => h) ?_
  refine TL.v (Val.assign rfl) ?_
  refine TL.nt ?_
  refine TC.en (E' := [(0, _), (1, _), (2, _), (3, _), (5, _), (6, _), (8, _), (10, _), (11, _)]) ?_
  refine TC.sr ?_
  refine TL.v (Val.move rfl) ?_
  refine TL.v (Val.move rfl) ?_
  refine TL.d (Does.callF go10 rfl ((Check_nil gb rb lb nb cn ob co sn so cfD 4 3 2 ([⟨0, 0⟩, ⟨0, 0⟩, ⟨0, 0⟩, ⟨0, 0⟩] : List On) ([n0, n1, n2, n3] : List Nat) ([o0, o1, o2, o3] : List Nat) ((b5_, .cells #[.int .i64 1, .int .i64 2, .int .i64 0, .int .i64 1, .int .i64 1, .int .i64 9, .int .i64 0] 39 (0, 0)) :: (bE, row 5 (bv (sealB (macKey 1 2 0) ⟨1, (2 : Nat), 0, 1, 1, 9, 0⟩) ++ spE)) :: sobj sb 1 2 0 1 :: repO n0 cfD.window 0 0 0 :: repO n1 cfD.window 0 0 0 :: repO n2 cfD.window 1 (nextB cfD.window 0) 0 :: repO n3 cfD.window 0 0 0 :: repO o0 cfD.window 0 0 0 :: repO o1 cfD.window 0 0 0 :: repO o2 cfD.window 0 0 0 :: repO o3 cfD.window 0 0 0 :: M) rfl rfl rfl rfl ⟨by decide, by decide⟩ ⟨by decide, by decide⟩ 2 ⟨0, 0⟩ rfl ⟨by decide, by decide⟩ ⟨by decide, by decide⟩ 1 0 1 1 9 0 ⟨by decide, by decide⟩ (by decide) 0 okD n2 o2 rfl rfl 5 1 (nextB cfD.window 0) 0 ⟨by decide, by decide⟩ rfl ⟨by decide, by decide⟩ (by decide) ⟨by decide, by decide⟩ (tagB (tagOf (macKey 1 2 0) (putM ⟨1, (2 : Nat), 0, 1, 1, 9, 0⟩))) (some ⟨bE, 0, none⟩) cE (rd_all (i := 1) (sp := spE) rfl) (by omega) (by simp)).mono (fun v M' h => h.elim (fun h => absurd (h.1.symm.trans (chk6 rfl (decide_eq_true (same_yes (tagOf_bd (macKey 1 2 0) (putM ⟨1, (2 : Nat), 0, 1, 1, 9, 0⟩)).1 (tagOf_bd (macKey 1 2 0) (putM ⟨1, (2 : Nat), 0, 1, 1, 9, 0⟩)).2)) (by decide +kernel))) (by decide)) (fun h => And.intro (h.2.1.trans (congrArg (fun q => Value.tuple #[.agg #[.int .i64 0, .int .i64 0, .int .i64 0, .int .i64 0, .int .i64 0, .int .i64 0, .int .i64 0], .int .i64 q]) (chk6 rfl (decide_eq_true (same_yes (tagOf_bd (macKey 1 2 0) (putM ⟨1, (2 : Nat), 0, 1, 1, 9, 0⟩)).1 (tagOf_bd (macKey 1 2 0) (putM ⟨1, (2 : Nat), 0, 1, 1, 9, 0⟩)).2)) (by decide +kernel)))) h.2.2)))) ?_
  rintro _ _ ⟨rfl, rfl⟩
  refine TL.v (Val.move rfl) ?_
  refine TL.v (Val.extract rfl rfl) ?_
  refine TL.v (Val.extract rfl rfl) ?_
  refine TL.d (Does.alloc ze39 rfl) ?_
  rintro _ _ ⟨b12, rfl, rfl⟩
  refine TL.d (Does.store (i := 0) rfl rfl rfl sz39 rfl rfl (by first | exact Nat.le_of_ble_eq_true rfl | decide | omega) rfl rfl) ?_
  rintro _ _ ⟨rfl, rfl⟩
  refine TL.v (Val.assign rfl) ?_
  refine TL.nt ?_
  refine TC.en (E' := [(0, _), (1, _), (2, _), (3, _), (5, _), (6, _), (8, _), (10, _), (11, _), (13, _)]) ?_
  refine TC.seq ?_
  refine TC.heap (M' := gateO gb cfD rb (some ⟨nb, 0, none⟩) 4 cn (some ⟨ob, 0, none⟩) 4 co 3 :: ringO rb cfD.seed lb 4 cfD.grace 4 :: (lb, row 127 (([⟨0, 0⟩, ⟨0, 0⟩, ⟨0, 0⟩, ⟨0, 0⟩] : List On).flatMap On.cs)) :: (nb, row 62 (([n0, n1, n2, n3] : List Nat).map pp ++ sn)) :: (ob, row 62 (([o0, o1, o2, o3] : List Nat).map pp ++ so)) :: ((b5_, .cells #[.int .i64 1, .int .i64 2, .int .i64 0, .int .i64 1, .int .i64 1, .int .i64 9, .int .i64 0] 39 (0, 0)) :: (bE, row 5 (bv (sealB (macKey 1 2 0) ⟨1, (2 : Nat), 0, 1, 1, 9, 0⟩) ++ spE)) :: sobj sb 1 2 0 1 :: repO n0 cfD.window 0 0 0 :: repO n1 cfD.window 0 0 0 :: repO n2 cfD.window 1 (nextB cfD.window 0) 0 :: repO n3 cfD.window 0 0 0 :: repO o0 cfD.window 0 0 0 :: repO o1 cfD.window 0 0 0 :: repO o2 cfD.window 0 0 0 :: repO o3 cfD.window 0 0 0 :: M)) (fun w h => h.drop) ?_
  refine TC.region ?_
  refine TL.v (Val.move rfl) ?_
  refine TL.d (Does.callF go10 rfl (Check_no gb rb lb nb cn ob co sn so cfD 4 4 3 ([⟨0, 0⟩, ⟨0, 0⟩, ⟨0, 0⟩, ⟨0, 0⟩] : List On) ([n0, n1, n2, n3] : List Nat) ([o0, o1, o2, o3] : List Nat) ((b5_, .cells #[.int .i64 1, .int .i64 2, .int .i64 0, .int .i64 1, .int .i64 1, .int .i64 9, .int .i64 0] 39 (0, 0)) :: (bE, row 5 (bv (sealB (macKey 1 2 0) ⟨1, (2 : Nat), 0, 1, 1, 9, 0⟩) ++ spE)) :: sobj sb 1 2 0 1 :: repO n0 cfD.window 0 0 0 :: repO n1 cfD.window 0 0 0 :: repO n2 cfD.window 1 (nextB cfD.window 0) 0 :: repO n3 cfD.window 0 0 0 :: repO o0 cfD.window 0 0 0 :: repO o1 cfD.window 0 0 0 :: repO o2 cfD.window 0 0 0 :: repO o3 cfD.window 0 0 0 :: M) none 0 0 (by decide) 0 ⟨by decide, by decide⟩)) ?_
  rintro _ _ ⟨rfl, rfl⟩
  refine TL.v (Val.move rfl) ?_
  refine TL.v (Val.extract rfl rfl) ?_
  refine TL.v (Val.extract rfl rfl) ?_
  refine TL.d (Does.alloc ze39 rfl) ?_
  rintro _ _ ⟨b14, rfl, rfl⟩
  refine TL.d (Does.store (i := 0) rfl rfl rfl sz39 rfl rfl (by first | exact Nat.le_of_ble_eq_true rfl | decide | omega) rfl rfl) ?_
  rintro _ _ ⟨rfl, rfl⟩
  refine TL.v (Val.assign rfl) ?_
  refine TL.nt ?_
  refine TC.en (E' := [(0, _), (1, _), (2, _), (3, _), (5, _), (6, _), (8, _), (10, _), (11, _), (13, _), (15, _)]) ?_
  refine TC.seq ?_
  refine TC.heap (M' := gateO gb cfD rb (some ⟨nb, 0, none⟩) 4 cn (some ⟨ob, 0, none⟩) 4 co 4 :: ringO rb cfD.seed lb 4 cfD.grace 4 :: (lb, row 127 (([⟨0, 0⟩, ⟨0, 0⟩, ⟨0, 0⟩, ⟨0, 0⟩] : List On).flatMap On.cs)) :: (nb, row 62 (([n0, n1, n2, n3] : List Nat).map pp ++ sn)) :: (ob, row 62 (([o0, o1, o2, o3] : List Nat).map pp ++ so)) :: ((b5_, .cells #[.int .i64 1, .int .i64 2, .int .i64 0, .int .i64 1, .int .i64 1, .int .i64 9, .int .i64 0] 39 (0, 0)) :: (bE, row 5 (bv (sealB (macKey 1 2 0) ⟨1, (2 : Nat), 0, 1, 1, 9, 0⟩) ++ spE)) :: sobj sb 1 2 0 1 :: repO n0 cfD.window 0 0 0 :: repO n1 cfD.window 0 0 0 :: repO n2 cfD.window 1 (nextB cfD.window 0) 0 :: repO n3 cfD.window 0 0 0 :: repO o0 cfD.window 0 0 0 :: repO o1 cfD.window 0 0 0 :: repO o2 cfD.window 0 0 0 :: repO o3 cfD.window 0 0 0 :: M)) (fun w h => h.drop) ?_
  refine TC.region ?_
  refine TL.d (Does.buildSlice0 sl34 sz5) ?_
  rintro _ _ ⟨b90, rfl, rfl⟩
  refine TL.v (Val.move rfl) ?_
  refine TL.d (Does.appendS (xs := []) (ys := bv (sealB (macKey 1 2 0) ⟨1, (2 : Nat), 0, 1, 1, 9, 0⟩)) (n := 0) (some (b90, 0, [])) _ ro_refl rfl rfl sl34 sz5 by5 ze5 rfl ⟨rfl, rfl⟩ (srcB us34 (rd_all (i := 7) (sp := spE) rfl)) (by simp) (bv_one _) (by omega) (by omega)) ?_
  rintro _ _ ⟨σK, rfl, hokK, rfl⟩
  obtain ⟨bK, cK, spK, rfl, hcK⟩ := hokK.some (by omega)
  rw [List.nil_append] at hcK ⊢
  have hcK2 : 48 + spK.length = cK := by simpa using hcK
  refine TL.v (Val.assign rfl) ?_
  refine TL.nt ?_
  refine TC.en (E' := [(0, _), (1, _), (2, _), (5, _), (6, _), (8, _), (10, _), (11, _), (13, _), (15, _), (16, _)]) ?_
  refine TC.seq ?_
  refine TC.seq ?_
  refine TC.heap (M' := gateO gb cfD rb (some ⟨nb, 0, none⟩) 4 cn (some ⟨ob, 0, none⟩) 4 co 4 :: ringO rb cfD.seed lb 4 cfD.grace 4 :: (lb, row 127 (([⟨0, 0⟩, ⟨0, 0⟩, ⟨0, 0⟩, ⟨0, 0⟩] : List On).flatMap On.cs)) :: (nb, row 62 (([n0, n1, n2, n3] : List Nat).map pp ++ sn)) :: (ob, row 62 (([o0, o1, o2, o3] : List Nat).map pp ++ so)) :: ((bK, row 5 (bv (sealB (macKey 1 2 0) ⟨1, (2 : Nat), 0, 1, 1, 9, 0⟩) ++ spK)) :: (b5_, .cells #[.int .i64 1, .int .i64 2, .int .i64 0, .int .i64 1, .int .i64 1, .int .i64 9, .int .i64 0] 39 (0, 0)) :: (bE, row 5 (bv (sealB (macKey 1 2 0) ⟨1, (2 : Nat), 0, 1, 1, 9, 0⟩) ++ spE)) :: sobj sb 1 2 0 1 :: repO n0 cfD.window 0 0 0 :: repO n1 cfD.window 0 0 0 :: repO n2 cfD.window 1 (nextB cfD.window 0) 0 :: repO n3 cfD.window 0 0 0 :: repO o0 cfD.window 0 0 0 :: repO o1 cfD.window 0 0 0 :: repO o2 cfD.window 0 0 0 :: repO o3 cfD.window 0 0 0 :: M)) (fun w h => ro_mv (A := [_]) (L := [_, _, _, _, _]) w h) ?_
  refine TC.region ?_
  refine TL.v (Val.move rfl) ?_
  refine TL.v (Val.lenSl rfl rfl sl34) ?_
  refine TL.v (Val.neqI rfl rfl) ?_
  refine TL.nt ?_
  refine TC.en (E' := [(0, _), (1, _), (2, _), (5, _), (6, _), (8, _), (10, _), (11, _), (13, _), (15, _), (16, _), (75, _)]) ?_
  refine TC.condP rfl (fun c2 => ?_) (fun c2 => ?_)
  ·
   exact absurd rfl c2
  ·
   refine TC.en (E' := [(0, _), (1, _), (2, _), (5, _), (6, _), (8, _), (10, _), (11, _), (13, _), (15, _), (16, _)]) ?_
   refine TC.skip ?_
   refine AtX.then ?_
   refine TC.en (E' := [(0, _), (1, _), (2, _), (5, _), (6, _), (8, _), (10, _), (11, _), (13, _), (15, _), (16, _)]) ?_
   refine TC.sr ?_
   refine TL.v (Val.move rfl) ?_
   refine TL.v (Val.move rfl) ?_
   refine TL.v (Val.indexAddr (i := 40) rfl rfl sl34 sz5 rfl (by decide) rfl) ?_
   refine TL.v (Val.loadB 40 rfl ag5 (rd_allR (i := 5) (l := sealB (macKey 1 2 0) ⟨1, (2 : Nat), 0, 1, 1, 9, 0⟩) (sp := spK) rfl) rfl (by simp)) ?_
   refine TL.v (Val.xor rfl rfl (r := (((sealB (macKey 1 2 0) ⟨1, (2 : Nat), 0, 1, 1, 9, 0⟩).getD 40 0 ^^^ 1).toNat : Int)) (xor8 _ 1)) ?_
   refine TL.v (Val.indexAddr (i := 40) rfl rfl sl34 sz5 rfl (by decide) rfl) ?_
   refine TL.d (Does.storeB (c := ((sealB (macKey 1 2 0) ⟨1, (2 : Nat), 0, 1, 1, 9, 0⟩).getD 40 0 ^^^ 1)) rfl rfl (i := 5) rfl rfl (by simp) sz5) ?_
   rintro _ _ ⟨rfl, rfl⟩
   refine TL.nt ?_
   refine TC.en (E' := [(0, _), (1, _), (2, _), (5, _), (6, _), (8, _), (10, _), (11, _), (13, _), (15, _), (16, _)]) ?_
   refine TC.seq ?_
   refine TC.heap (M' := gateO gb cfD rb (some ⟨nb, 0, none⟩) 4 cn (some ⟨ob, 0, none⟩) 4 co 4 :: ringO rb cfD.seed lb 4 cfD.grace 4 :: (lb, row 127 (([⟨0, 0⟩, ⟨0, 0⟩, ⟨0, 0⟩, ⟨0, 0⟩] : List On).flatMap On.cs)) :: (nb, row 62 (([n0, n1, n2, n3] : List Nat).map pp ++ sn)) :: (ob, row 62 (([o0, o1, o2, o3] : List Nat).map pp ++ so)) :: ((bK, row 5 (bv ((sealB (macKey 1 2 0) ⟨1, (2 : Nat), 0, 1, 1, 9, 0⟩).set 40 ((sealB (macKey 1 2 0) ⟨1, (2 : Nat), 0, 1, 1, 9, 0⟩).getD 40 0 ^^^ 1)) ++ spK)) :: (b5_, .cells #[.int .i64 1, .int .i64 2, .int .i64 0, .int .i64 1, .int .i64 1, .int .i64 9, .int .i64 0] 39 (0, 0)) :: (bE, row 5 (bv (sealB (macKey 1 2 0) ⟨1, (2 : Nat), 0, 1, 1, 9, 0⟩) ++ spE)) :: sobj sb 1 2 0 1 :: repO n0 cfD.window 0 0 0 :: repO n1 cfD.window 0 0 0 :: repO n2 cfD.window 1 (nextB cfD.window 0) 0 :: repO n3 cfD.window 0 0 0 :: repO o0 cfD.window 0 0 0 :: repO o1 cfD.window 0 0 0 :: repO o2 cfD.window 0 0 0 :: repO o3 cfD.window 0 0 0 :: M)) (fun w h => h) ?_
   have hK : RdS ((bK, row 5 (bv ((sealB (macKey 1 2 0) ⟨1, (2 : Nat), 0, 1, 1, 9, 0⟩).set 40 ((sealB (macKey 1 2 0) ⟨1, (2 : Nat), 0, 1, 1, 9, 0⟩).getD 40 0 ^^^ 1)) ++ spK)) :: (b5_, .cells #[.int .i64 1, .int .i64 2, .int .i64 0, .int .i64 1, .int .i64 1, .int .i64 9, .int .i64 0] 39 (0, 0)) :: (bE, row 5 (bv (sealB (macKey 1 2 0) ⟨1, (2 : Nat), 0, 1, 1, 9, 0⟩) ++ spE)) :: sobj sb 1 2 0 1 :: repO n0 cfD.window 0 0 0 :: repO n1 cfD.window 0 0 0 :: repO n2 cfD.window 1 (nextB cfD.window 0) 0 :: repO n3 cfD.window 0 0 0 :: repO o0 cfD.window 0 0 0 :: repO o1 cfD.window 0 0 0 :: repO o2 cfD.window 0 0 0 :: repO o3 cfD.window 0 0 0 :: M) (some ⟨bK, 0, none⟩) (bv (putM ⟨1, (2 : Nat), 0, 1, 1, 9, 0⟩ ++ (tagB (tagOf (macKey 1 2 0) (putM ⟨1, (2 : Nat), 0, 1, 1, 9, 0⟩))).set 8 ((sealB (macKey 1 2 0) ⟨1, (2 : Nat), 0, 1, 1, 9, 0⟩).getD 40 0 ^^^ 1))) := by have h : RdS ((bK, row 5 (bv ((sealB (macKey 1 2 0) ⟨1, (2 : Nat), 0, 1, 1, 9, 0⟩).set 40 ((sealB (macKey 1 2 0) ⟨1, (2 : Nat), 0, 1, 1, 9, 0⟩).getD 40 0 ^^^ 1)) ++ spK)) :: (b5_, .cells #[.int .i64 1, .int .i64 2, .int .i64 0, .int .i64 1, .int .i64 1, .int .i64 9, .int .i64 0] 39 (0, 0)) :: (bE, row 5 (bv (sealB (macKey 1 2 0) ⟨1, (2 : Nat), 0, 1, 1, 9, 0⟩) ++ spE)) :: sobj sb 1 2 0 1 :: repO n0 cfD.window 0 0 0 :: repO n1 cfD.window 0 0 0 :: repO n2 cfD.window 1 (nextB cfD.window 0) 0 :: repO n3 cfD.window 0 0 0 :: repO o0 cfD.window 0 0 0 :: repO o1 cfD.window 0 0 0 :: repO o2 cfD.window 0 0 0 :: repO o3 cfD.window 0 0 0 :: M) (some ⟨bK, 0, none⟩) (bv ((sealB (macKey 1 2 0) ⟨1, (2 : Nat), 0, 1, 1, 9, 0⟩).set 40 ((sealB (macKey 1 2 0) ⟨1, (2 : Nat), 0, 1, 1, 9, 0⟩).getD 40 0 ^^^ 1))) := rd_all (i := 0) (sp := spK) rfl; rw [set_40] at h; exact h
   refine TC.region ?_
   refine TL.v (Val.move rfl) ?_
   refine TL.v (Val.move rfl) ?_
   refine TL.d (Does.callF go10 rfl ((Check_nil gb rb lb nb cn ob co sn so cfD 4 4 4 ([⟨0, 0⟩, ⟨0, 0⟩, ⟨0, 0⟩, ⟨0, 0⟩] : List On) ([n0, n1, n2, n3] : List Nat) ([o0, o1, o2, o3] : List Nat) ((bK, row 5 (bv ((sealB (macKey 1 2 0) ⟨1, (2 : Nat), 0, 1, 1, 9, 0⟩).set 40 ((sealB (macKey 1 2 0) ⟨1, (2 : Nat), 0, 1, 1, 9, 0⟩).getD 40 0 ^^^ 1)) ++ spK)) :: (b5_, .cells #[.int .i64 1, .int .i64 2, .int .i64 0, .int .i64 1, .int .i64 1, .int .i64 9, .int .i64 0] 39 (0, 0)) :: (bE, row 5 (bv (sealB (macKey 1 2 0) ⟨1, (2 : Nat), 0, 1, 1, 9, 0⟩) ++ spE)) :: sobj sb 1 2 0 1 :: repO n0 cfD.window 0 0 0 :: repO n1 cfD.window 0 0 0 :: repO n2 cfD.window 1 (nextB cfD.window 0) 0 :: repO n3 cfD.window 0 0 0 :: repO o0 cfD.window 0 0 0 :: repO o1 cfD.window 0 0 0 :: repO o2 cfD.window 0 0 0 :: repO o3 cfD.window 0 0 0 :: M) rfl rfl rfl rfl ⟨by decide, by decide⟩ ⟨by decide, by decide⟩ 2 ⟨0, 0⟩ rfl ⟨by decide, by decide⟩ ⟨by decide, by decide⟩ 1 0 1 1 9 0 ⟨by decide, by decide⟩ (by decide) 0 okD n2 o2 rfl rfl 6 1 (nextB cfD.window 0) 0 ⟨by decide, by decide⟩ rfl ⟨by decide, by decide⟩ (by decide) ⟨by decide, by decide⟩ ((tagB (tagOf (macKey 1 2 0) (putM ⟨1, (2 : Nat), 0, 1, 1, 9, 0⟩))).set 8 ((sealB (macKey 1 2 0) ⟨1, (2 : Nat), 0, 1, 1, 9, 0⟩).getD 40 0 ^^^ 1)) (some ⟨bK, 0, none⟩) cK hK (by omega) (by simp)).mono (fun v M' h => h.elim (fun h => absurd (h.1.symm.trans (chk5 rfl (decide_eq_false (same_no (tagOf_bd (macKey 1 2 0) (putM ⟨1, (2 : Nat), 0, 1, 1, 9, 0⟩)).1 (tagOf_bd (macKey 1 2 0) (putM ⟨1, (2 : Nat), 0, 1, 1, 9, 0⟩)).2 (turned_ne _ _))))) (by decide)) (fun h => And.intro (h.2.1.trans (congrArg (fun q => Value.tuple #[.agg #[.int .i64 0, .int .i64 0, .int .i64 0, .int .i64 0, .int .i64 0, .int .i64 0, .int .i64 0], .int .i64 q]) (chk5 rfl (decide_eq_false (same_no (tagOf_bd (macKey 1 2 0) (putM ⟨1, (2 : Nat), 0, 1, 1, 9, 0⟩)).1 (tagOf_bd (macKey 1 2 0) (putM ⟨1, (2 : Nat), 0, 1, 1, 9, 0⟩)).2 (turned_ne _ _)))))) h.2.2)))) ?_
   rintro _ _ ⟨rfl, rfl⟩
   refine TL.v (Val.move rfl) ?_
   refine TL.v (Val.extract rfl rfl) ?_
   refine TL.v (Val.extract rfl rfl) ?_
   refine TL.d (Does.alloc ze39 rfl) ?_
   rintro _ _ ⟨b16, rfl, rfl⟩
   refine TL.d (Does.store (i := 0) rfl rfl rfl sz39 rfl rfl (by first | exact Nat.le_of_ble_eq_true rfl | decide | omega) rfl rfl) ?_
   rintro _ _ ⟨rfl, rfl⟩
   refine TL.v (Val.assign rfl) ?_
   refine TL.nt ?_
   refine TC.en (E' := [(0, _), (1, _), (2, _), (5, _), (6, _), (8, _), (10, _), (11, _), (13, _), (15, _), (18, _)]) ?_
   refine TC.seq ?_
   refine TC.heap (M' := gateO gb cfD rb (some ⟨nb, 0, none⟩) 4 cn (some ⟨ob, 0, none⟩) 4 co 5 :: ringO rb cfD.seed lb 4 cfD.grace 5 :: (lb, row 127 (([⟨0, 0⟩, ⟨0, 0⟩, ⟨0, 0⟩, ⟨0, 0⟩] : List On).flatMap On.cs)) :: (nb, row 62 (([n0, n1, n2, n3] : List Nat).map pp ++ sn)) :: (ob, row 62 (([o0, o1, o2, o3] : List Nat).map pp ++ so)) :: ((bK, row 5 (bv ((sealB (macKey 1 2 0) ⟨1, (2 : Nat), 0, 1, 1, 9, 0⟩).set 40 ((sealB (macKey 1 2 0) ⟨1, (2 : Nat), 0, 1, 1, 9, 0⟩).getD 40 0 ^^^ 1)) ++ spK)) :: (b5_, .cells #[.int .i64 1, .int .i64 2, .int .i64 0, .int .i64 1, .int .i64 1, .int .i64 9, .int .i64 0] 39 (0, 0)) :: (bE, row 5 (bv (sealB (macKey 1 2 0) ⟨1, (2 : Nat), 0, 1, 1, 9, 0⟩) ++ spE)) :: sobj sb 1 2 0 1 :: repO n0 cfD.window 0 0 0 :: repO n1 cfD.window 0 0 0 :: repO n2 cfD.window 1 (nextB cfD.window 0) 0 :: repO n3 cfD.window 0 0 0 :: repO o0 cfD.window 0 0 0 :: repO o1 cfD.window 0 0 0 :: repO o2 cfD.window 0 0 0 :: repO o3 cfD.window 0 0 0 :: M)) (fun w h => h.drop) ?_
   refine TC.region ?_
   refine TL.v (Val.move rfl) ?_
   refine TL.d (Does.callF go46 rfl (sRotate_fn sb 8 1 2 0 1 1 _ rfl (by decide))) ?_
   rintro _ _ ⟨bR, cR, spR, rfl, hcR, rfl⟩
   refine TL.heap (M' := gateO gb cfD rb (some ⟨nb, 0, none⟩) 4 cn (some ⟨ob, 0, none⟩) 4 co 5 :: ringO rb cfD.seed lb 4 cfD.grace 5 :: (lb, row 127 (([⟨0, 0⟩, ⟨0, 0⟩, ⟨0, 0⟩, ⟨0, 0⟩] : List On).flatMap On.cs)) :: (nb, row 62 (([n0, n1, n2, n3] : List Nat).map pp ++ sn)) :: (ob, row 62 (([o0, o1, o2, o3] : List Nat).map pp ++ so)) :: ((bR, row 5 (bv (sealB (macKey 1 2 0) ⟨2, (2 : Nat), 1, 2, 1, 0, 0⟩) ++ spR)) :: (bK, row 5 (bv ((sealB (macKey 1 2 0) ⟨1, (2 : Nat), 0, 1, 1, 9, 0⟩).set 40 ((sealB (macKey 1 2 0) ⟨1, (2 : Nat), 0, 1, 1, 9, 0⟩).getD 40 0 ^^^ 1)) ++ spK)) :: (b5_, .cells #[.int .i64 1, .int .i64 2, .int .i64 0, .int .i64 1, .int .i64 1, .int .i64 9, .int .i64 0] 39 (0, 0)) :: (bE, row 5 (bv (sealB (macKey 1 2 0) ⟨1, (2 : Nat), 0, 1, 1, 9, 0⟩) ++ spE)) :: sobj sb 1 2 1 0 :: repO n0 cfD.window 0 0 0 :: repO n1 cfD.window 0 0 0 :: repO n2 cfD.window 1 (nextB cfD.window 0) 0 :: repO n3 cfD.window 0 0 0 :: repO o0 cfD.window 0 0 0 :: repO o1 cfD.window 0 0 0 :: repO o2 cfD.window 0 0 0 :: repO o3 cfD.window 0 0 0 :: M)) (fun w h => ro_mv (A := [_]) (L := [_, _, _, _, _]) w h) ?_
   refine TL.v (Val.move rfl) ?_
   refine TL.v (Val.extract rfl rfl) ?_
   refine TL.v (Val.extract rfl rfl) ?_
   refine TL.v (Val.assign rfl) ?_
   refine TL.v (Val.assign rfl) ?_
   refine TL.nt ?_
   refine TC.en (E' := [(0, _), (1, _), (5, _), (6, _), (8, _), (10, _), (11, _), (13, _), (15, _), (18, _), (19, _)]) ?_
   refine TC.sr ?_
   refine TL.v (Val.move rfl) ?_
   refine TL.v (Val.move rfl) ?_
   refine TL.d (Does.callF go10 rfl ((Check_nil gb rb lb nb cn ob co sn so cfD 4 5 5 ([⟨0, 0⟩, ⟨0, 0⟩, ⟨0, 0⟩, ⟨0, 0⟩] : List On) ([n0, n1, n2, n3] : List Nat) ([o0, o1, o2, o3] : List Nat) ((bR, row 5 (bv (sealB (macKey 1 2 0) ⟨2, (2 : Nat), 1, 2, 1, 0, 0⟩) ++ spR)) :: (bK, row 5 (bv ((sealB (macKey 1 2 0) ⟨1, (2 : Nat), 0, 1, 1, 9, 0⟩).set 40 ((sealB (macKey 1 2 0) ⟨1, (2 : Nat), 0, 1, 1, 9, 0⟩).getD 40 0 ^^^ 1)) ++ spK)) :: (b5_, .cells #[.int .i64 1, .int .i64 2, .int .i64 0, .int .i64 1, .int .i64 1, .int .i64 9, .int .i64 0] 39 (0, 0)) :: (bE, row 5 (bv (sealB (macKey 1 2 0) ⟨1, (2 : Nat), 0, 1, 1, 9, 0⟩) ++ spE)) :: sobj sb 1 2 1 0 :: repO n0 cfD.window 0 0 0 :: repO n1 cfD.window 0 0 0 :: repO n2 cfD.window 1 (nextB cfD.window 0) 0 :: repO n3 cfD.window 0 0 0 :: repO o0 cfD.window 0 0 0 :: repO o1 cfD.window 0 0 0 :: repO o2 cfD.window 0 0 0 :: repO o3 cfD.window 0 0 0 :: M) rfl rfl rfl rfl ⟨by decide, by decide⟩ ⟨by decide, by decide⟩ 2 ⟨0, 0⟩ rfl ⟨by decide, by decide⟩ ⟨by decide, by decide⟩ 2 1 2 1 0 0 ⟨by decide, by decide⟩ (by decide) 0 okD n2 o2 rfl rfl 7 1 (nextB cfD.window 0) 0 ⟨by decide, by decide⟩ rfl ⟨by decide, by decide⟩ (by decide) ⟨by decide, by decide⟩ (tagB (tagOf (macKey 1 2 0) (putM ⟨2, (2 : Nat), 1, 2, 1, 0, 0⟩))) (some ⟨bR, 0, none⟩) cR (rd_all (i := 0) (sp := spR) rfl) (by omega) (by simp)).mono (fun v M' h => h.elim (fun h => And.intro h.2.1 h.2.2) (fun h => False.elim (h.1 (chk0 rfl (decide_eq_true (same_yes (tagOf_bd (macKey 1 2 0) (putM ⟨2, (2 : Nat), 1, 2, 1, 0, 0⟩)).1 (tagOf_bd (macKey 1 2 0) (putM ⟨2, (2 : Nat), 1, 2, 1, 0, 0⟩)).2)) (by decide +kernel) (by decide) (by decide))))))) ?_
   rintro _ _ ⟨rfl, rfl⟩
   refine TL.v (Val.move rfl) ?_
   refine TL.v (Val.extract rfl rfl) ?_
   refine TL.v (Val.extract rfl rfl) ?_
   refine TL.d (Does.alloc ze39 rfl) ?_
   rintro _ _ ⟨b21, rfl, rfl⟩
   refine TL.d (Does.store (i := 0) rfl rfl rfl sz39 rfl rfl (by first | exact Nat.le_of_ble_eq_true rfl | decide | omega) rfl rfl) ?_
   rintro _ _ ⟨rfl, rfl⟩
   refine TL.v (Val.assign rfl) ?_
   refine TL.nt ?_
   refine TC.en (E' := [(0, _), (1, _), (5, _), (6, _), (8, _), (10, _), (11, _), (13, _), (15, _), (18, _), (21, _), (22, _)]) ?_
   refine TC.seq ?_
   refine TC.heap (M' := gateO gb cfD rb (some ⟨nb, 0, none⟩) 4 cn (some ⟨ob, 0, none⟩) 4 co 5 :: ringO rb cfD.seed lb 4 cfD.grace 6 :: (lb, row 127 (([⟨0, 0⟩, ⟨0, 0⟩, ⟨0, 0⟩, ⟨0, 0⟩] : List On).flatMap On.cs)) :: (nb, row 62 (([n0, n1, n2, n3] : List Nat).map pp ++ sn)) :: (ob, row 62 (([o0, o1, o2, o3] : List Nat).map pp ++ so)) :: ((b21, .cells #[.int .i64 2, .int .i64 2, .int .i64 1, .int .i64 2, .int .i64 1, .int .i64 0, .int .i64 0] 39 (0, 0)) :: (bR, row 5 (bv (sealB (macKey 1 2 0) ⟨2, (2 : Nat), 1, 2, 1, 0, 0⟩) ++ spR)) :: (bK, row 5 (bv ((sealB (macKey 1 2 0) ⟨1, (2 : Nat), 0, 1, 1, 9, 0⟩).set 40 ((sealB (macKey 1 2 0) ⟨1, (2 : Nat), 0, 1, 1, 9, 0⟩).getD 40 0 ^^^ 1)) ++ spK)) :: (b5_, .cells #[.int .i64 1, .int .i64 2, .int .i64 0, .int .i64 1, .int .i64 1, .int .i64 9, .int .i64 0] 39 (0, 0)) :: (bE, row 5 (bv (sealB (macKey 1 2 0) ⟨1, (2 : Nat), 0, 1, 1, 9, 0⟩) ++ spE)) :: sobj sb 1 2 1 0 :: repO n0 cfD.window 0 0 0 :: repO n1 cfD.window 0 0 0 :: repO n2 cfD.window 1 (nextB cfD.window 0) 0 :: repO n3 cfD.window 0 0 0 :: repO o0 cfD.window 0 0 0 :: repO o1 cfD.window 0 0 0 :: repO o2 cfD.window 0 0 0 :: repO o3 cfD.window 0 0 0 :: M)) (fun w h => ro_mv (A := [_]) (L := [_, _, _, _, _]) w h) ?_
   refine TC.region ?_
   refine TL.v (Val.move rfl) ?_
   refine TL.v (Val.loadAgg 5 rfl ag39 sz39 rfl rfl rfl) ?_
   refine TL.d (Does.callF go18 rfl (Take_r gb rb lb nb cn ob co sn so cfD 4 6 5 ([⟨0, 0⟩, ⟨0, 0⟩, ⟨0, 0⟩, ⟨0, 0⟩] : List On) ([n0, n1, n2, n3] : List Nat) ([o0, o1, o2, o3] : List Nat) ((b21, .cells #[.int .i64 2, .int .i64 2, .int .i64 1, .int .i64 2, .int .i64 1, .int .i64 0, .int .i64 0] 39 (0, 0)) :: (bR, row 5 (bv (sealB (macKey 1 2 0) ⟨2, (2 : Nat), 1, 2, 1, 0, 0⟩) ++ spR)) :: (bK, row 5 (bv ((sealB (macKey 1 2 0) ⟨1, (2 : Nat), 0, 1, 1, 9, 0⟩).set 40 ((sealB (macKey 1 2 0) ⟨1, (2 : Nat), 0, 1, 1, 9, 0⟩).getD 40 0 ^^^ 1)) ++ spK)) :: (b5_, .cells #[.int .i64 1, .int .i64 2, .int .i64 0, .int .i64 1, .int .i64 1, .int .i64 9, .int .i64 0] 39 (0, 0)) :: (bE, row 5 (bv (sealB (macKey 1 2 0) ⟨1, (2 : Nat), 0, 1, 1, 9, 0⟩) ++ spE)) :: sobj sb 1 2 1 0 :: repO n0 cfD.window 0 0 0 :: repO n1 cfD.window 0 0 0 :: repO n2 cfD.window 1 (nextB cfD.window 0) 0 :: repO n3 cfD.window 0 0 0 :: repO o0 cfD.window 0 0 0 :: repO o1 cfD.window 0 0 0 :: repO o2 cfD.window 0 0 0 :: repO o3 cfD.window 0 0 0 :: M) rfl rfl rfl rfl ⟨by decide, by decide⟩ ⟨by decide, by decide⟩ 2 ⟨0, 0⟩ rfl ⟨by decide, by decide⟩ ⟨by decide, by decide⟩ 2 1 2 1 0 0 ⟨by decide, by decide⟩ (by decide) 0 okD n2 o2 rfl rfl 8 1 (nextB cfD.window 0) 0 ⟨by decide, by decide⟩ rfl ⟨by decide, by decide⟩ (by decide) rfl rfl rfl (by decide +kernel))) ?_
   rintro _ _ ⟨pn, rfl, rfl⟩
   refine TL.v (Val.assign rfl) ?_
   refine TL.nt ?_
   refine TC.en (E' := [(0, _), (1, _), (5, _), (6, _), (8, _), (10, _), (11, _), (13, _), (15, _), (18, _), (21, _), (22, _), (23, _)]) ?_
   refine TC.seq ?_
   refine TC.heap (M' := gateO gb cfD rb (some ⟨nb, 0, none⟩) 4 cn (some ⟨ob, 0, none⟩) 4 co 5 :: ringO rb cfD.seed lb 4 cfD.grace 7 :: (lb, row 127 (([⟨0, 0⟩, ⟨0, 0⟩, ⟨1, 0⟩, ⟨0, 0⟩] : List On).flatMap On.cs)) :: (nb, row 62 (([n0, n1, pn, n3] : List Nat).map pp ++ sn)) :: (ob, row 62 (([o0, o1, n2, o3] : List Nat).map pp ++ so)) :: (repO pn cfD.window 0 0 0 :: (b21, .cells #[.int .i64 2, .int .i64 2, .int .i64 1, .int .i64 2, .int .i64 1, .int .i64 0, .int .i64 0] 39 (0, 0)) :: (bR, row 5 (bv (sealB (macKey 1 2 0) ⟨2, (2 : Nat), 1, 2, 1, 0, 0⟩) ++ spR)) :: (bK, row 5 (bv ((sealB (macKey 1 2 0) ⟨1, (2 : Nat), 0, 1, 1, 9, 0⟩).set 40 ((sealB (macKey 1 2 0) ⟨1, (2 : Nat), 0, 1, 1, 9, 0⟩).getD 40 0 ^^^ 1)) ++ spK)) :: (b5_, .cells #[.int .i64 1, .int .i64 2, .int .i64 0, .int .i64 1, .int .i64 1, .int .i64 9, .int .i64 0] 39 (0, 0)) :: (bE, row 5 (bv (sealB (macKey 1 2 0) ⟨1, (2 : Nat), 0, 1, 1, 9, 0⟩) ++ spE)) :: sobj sb 1 2 1 0 :: repO n0 cfD.window 0 0 0 :: repO n1 cfD.window 0 0 0 :: repO n2 cfD.window 2 (nextB cfD.window (nextB cfD.window 0)) 0 :: repO n3 cfD.window 0 0 0 :: repO o0 cfD.window 0 0 0 :: repO o1 cfD.window 0 0 0 :: repO o2 cfD.window 0 0 0 :: repO o3 cfD.window 0 0 0 :: M)) (fun w h => h) ?_
   refine TC.region ?_
   refine TL.v (Val.move rfl) ?_
   refine TL.v (Val.same (v' := .bool true) (Val.eqlI rfl rfl) (rfl)) ?_
   refine TL.v (Val.move rfl) ?_
   refine TL.vy (Val.fieldAddr rfl fl39_5 sz2 rfl) ?_
   refine TL.vy (Val.load 9 rfl ag2 rfl rfl) ?_
   refine TL.vy (Val.same (v' := .bool true) (Val.eqlI rfl rfl) (rfl)) ?_
   refine TL.v (Val.pickAnd rfl rfl rfl) ?_
   refine TL.v (Val.move rfl) ?_
   refine TL.vy (Val.move rfl) ?_
   refine TL.vy (Val.same (v' := .bool true) (Val.eqlI rfl rfl) (rfl)) ?_
   refine TL.v (Val.pickAnd rfl rfl rfl) ?_
   refine TL.v (Val.move rfl) ?_
   refine TL.vy (Val.move rfl) ?_
   refine TL.vy (Val.same (v' := .bool true) (Val.eqlI rfl rfl) (rfl)) ?_
   refine TL.v (Val.pickAnd rfl rfl rfl) ?_
   refine TL.v (Val.move rfl) ?_
   refine TL.vy (Val.move rfl) ?_
   refine TL.vy (Val.same (v' := .bool true) (Val.eqlI rfl rfl) (rfl)) ?_
   refine TL.v (Val.pickAnd rfl rfl rfl) ?_
   refine TL.v (Val.move rfl) ?_
   refine TL.vy (Val.move rfl) ?_
   refine TL.vy (Val.same (v' := .bool true) (Val.eqlI rfl rfl) (rfl)) ?_
   refine TL.v (Val.pickAnd rfl rfl rfl) ?_
   refine TL.v (Val.move rfl) ?_
   refine TL.vy (Val.move rfl) ?_
   refine TL.vy (Val.same (v' := .bool true) (Val.eqlI rfl rfl) (rfl)) ?_
   refine TL.v (Val.pickAnd rfl rfl rfl) ?_
   refine TL.v (Val.move rfl) ?_
   refine TL.vy (Val.move rfl) ?_
   refine TL.vy (Val.same (v' := .bool true) (Val.eqlI rfl rfl) (rfl)) ?_
   refine TL.v (Val.pickAnd rfl rfl rfl) ?_
   refine TL.v (Val.move rfl) ?_
   refine TL.vy (Val.move rfl) ?_
   refine TL.vy (Val.same (v' := .bool true) (Val.eqlI rfl rfl) (rfl)) ?_
   refine TL.v (Val.pickAnd rfl rfl rfl) ?_
   refine TL.v (Val.move rfl) ?_
   refine TL.vy (Val.fieldAddr rfl fl39_2 sz3 rfl) ?_
   refine TL.vy (Val.load 6 rfl ag3 rfl rfl) ?_
   refine TL.vy (Val.same (v' := .bool true) (Val.eqlI rfl rfl) (rfl)) ?_
   refine TL.v (Val.pickAnd rfl rfl rfl) ?_
   refine TL.v (Val.move rfl) ?_
   refine TL.vy (Val.move rfl) ?_
   refine TL.vy (Val.same (v' := .bool true) (Val.eqlI rfl rfl) (rfl)) ?_
   refine TL.v (Val.pickAnd rfl rfl rfl) ?_
   refine TL.v (Val.move rfl) ?_
   refine TL.vy (Val.move rfl) ?_
   refine TL.dy (Does.callF go20 rfl (gRing_fn gb rb lb nb cn ob co sn so cfD 4 7 5 ([⟨0, 0⟩, ⟨0, 0⟩, ⟨1, 0⟩, ⟨0, 0⟩] : List On) ([n0, n1, pn, n3] : List Nat) ([o0, o1, n2, o3] : List Nat) (repO pn cfD.window 0 0 0 :: (b21, .cells #[.int .i64 2, .int .i64 2, .int .i64 1, .int .i64 2, .int .i64 1, .int .i64 0, .int .i64 0] 39 (0, 0)) :: (bR, row 5 (bv (sealB (macKey 1 2 0) ⟨2, (2 : Nat), 1, 2, 1, 0, 0⟩) ++ spR)) :: (bK, row 5 (bv ((sealB (macKey 1 2 0) ⟨1, (2 : Nat), 0, 1, 1, 9, 0⟩).set 40 ((sealB (macKey 1 2 0) ⟨1, (2 : Nat), 0, 1, 1, 9, 0⟩).getD 40 0 ^^^ 1)) ++ spK)) :: (b5_, .cells #[.int .i64 1, .int .i64 2, .int .i64 0, .int .i64 1, .int .i64 1, .int .i64 9, .int .i64 0] 39 (0, 0)) :: (bE, row 5 (bv (sealB (macKey 1 2 0) ⟨1, (2 : Nat), 0, 1, 1, 9, 0⟩) ++ spE)) :: sobj sb 1 2 1 0 :: repO n0 cfD.window 0 0 0 :: repO n1 cfD.window 0 0 0 :: repO n2 cfD.window 2 (nextB cfD.window (nextB cfD.window 0)) 0 :: repO n3 cfD.window 0 0 0 :: repO o0 cfD.window 0 0 0 :: repO o1 cfD.window 0 0 0 :: repO o2 cfD.window 0 0 0 :: repO o3 cfD.window 0 0 0 :: M))) ?_
   rintro _ _ ⟨rfl, rfl⟩
   refine TL.dy (Does.callF go23 rfl (rGen_fn rb lb 1 cfD.seed 4 cfD.grace 7 _ rfl ([⟨0, 0⟩, ⟨0, 0⟩, ⟨1, 0⟩, ⟨0, 0⟩] : List On) (.some (rd_rowA (i := 2) rfl)) rfl 2 ⟨1, 0⟩ rfl)) ?_
   rintro _ _ ⟨rfl, rfl⟩
   refine TL.vy (Val.same (v' := .bool true) (Val.eqlI rfl rfl) (rfl)) ?_
   refine TL.v (Val.pickAnd rfl rfl rfl) ?_
   refine TL.v (Val.move rfl) ?_
   refine TL.vy (Val.move rfl) ?_
   refine TL.dy (Does.callF go21 rfl (gReplay_fn gb rb lb nb cn ob co sn so cfD 4 7 5 ([⟨0, 0⟩, ⟨0, 0⟩, ⟨1, 0⟩, ⟨0, 0⟩] : List On) ([n0, n1, pn, n3] : List Nat) ([o0, o1, n2, o3] : List Nat) (repO pn cfD.window 0 0 0 :: (b21, .cells #[.int .i64 2, .int .i64 2, .int .i64 1, .int .i64 2, .int .i64 1, .int .i64 0, .int .i64 0] 39 (0, 0)) :: (bR, row 5 (bv (sealB (macKey 1 2 0) ⟨2, (2 : Nat), 1, 2, 1, 0, 0⟩) ++ spR)) :: (bK, row 5 (bv ((sealB (macKey 1 2 0) ⟨1, (2 : Nat), 0, 1, 1, 9, 0⟩).set 40 ((sealB (macKey 1 2 0) ⟨1, (2 : Nat), 0, 1, 1, 9, 0⟩).getD 40 0 ^^^ 1)) ++ spK)) :: (b5_, .cells #[.int .i64 1, .int .i64 2, .int .i64 0, .int .i64 1, .int .i64 1, .int .i64 9, .int .i64 0] 39 (0, 0)) :: (bE, row 5 (bv (sealB (macKey 1 2 0) ⟨1, (2 : Nat), 0, 1, 1, 9, 0⟩) ++ spE)) :: sobj sb 1 2 1 0 :: repO n0 cfD.window 0 0 0 :: repO n1 cfD.window 0 0 0 :: repO n2 cfD.window 2 (nextB cfD.window (nextB cfD.window 0)) 0 :: repO n3 cfD.window 0 0 0 :: repO o0 cfD.window 0 0 0 :: repO o1 cfD.window 0 0 0 :: repO o2 cfD.window 0 0 0 :: repO o3 cfD.window 0 0 0 :: M) 2 (by decide) pn rfl)) ?_
   rintro _ _ ⟨rfl, rfl⟩
   refine TL.dy (Does.callF go25 rfl (pTop_fn pn 5 cfD.window 0 0 0 _ rfl)) ?_
   rintro _ _ ⟨rfl, rfl⟩
   refine TL.vy (Val.same (v' := .bool true) (Val.eqlI rfl rfl) (rfl)) ?_
   refine TL.v (Val.pickAnd rfl rfl rfl) ?_
   refine TL.v (Val.move rfl) ?_
   refine TL.vy (Val.move rfl) ?_
   refine TL.dy (Does.callF go22 rfl (gOld_fn gb rb lb nb cn ob co sn so cfD 4 7 5 ([⟨0, 0⟩, ⟨0, 0⟩, ⟨1, 0⟩, ⟨0, 0⟩] : List On) ([n0, n1, pn, n3] : List Nat) ([o0, o1, n2, o3] : List Nat) (repO pn cfD.window 0 0 0 :: (b21, .cells #[.int .i64 2, .int .i64 2, .int .i64 1, .int .i64 2, .int .i64 1, .int .i64 0, .int .i64 0] 39 (0, 0)) :: (bR, row 5 (bv (sealB (macKey 1 2 0) ⟨2, (2 : Nat), 1, 2, 1, 0, 0⟩) ++ spR)) :: (bK, row 5 (bv ((sealB (macKey 1 2 0) ⟨1, (2 : Nat), 0, 1, 1, 9, 0⟩).set 40 ((sealB (macKey 1 2 0) ⟨1, (2 : Nat), 0, 1, 1, 9, 0⟩).getD 40 0 ^^^ 1)) ++ spK)) :: (b5_, .cells #[.int .i64 1, .int .i64 2, .int .i64 0, .int .i64 1, .int .i64 1, .int .i64 9, .int .i64 0] 39 (0, 0)) :: (bE, row 5 (bv (sealB (macKey 1 2 0) ⟨1, (2 : Nat), 0, 1, 1, 9, 0⟩) ++ spE)) :: sobj sb 1 2 1 0 :: repO n0 cfD.window 0 0 0 :: repO n1 cfD.window 0 0 0 :: repO n2 cfD.window 2 (nextB cfD.window (nextB cfD.window 0)) 0 :: repO n3 cfD.window 0 0 0 :: repO o0 cfD.window 0 0 0 :: repO o1 cfD.window 0 0 0 :: repO o2 cfD.window 0 0 0 :: repO o3 cfD.window 0 0 0 :: M) 2 (by decide) n2 rfl)) ?_
   rintro _ _ ⟨rfl, rfl⟩
   refine TL.dy (Does.callF go25 rfl (pTop_fn n2 14 cfD.window 2 _ 0 _ rfl)) ?_
   rintro _ _ ⟨rfl, rfl⟩
   refine TL.vy (Val.same (v' := .bool true) (Val.eqlI rfl rfl) (rfl)) ?_
   refine TL.v (Val.pickAnd rfl rfl rfl) ?_
   refine TL.v (Val.move rfl) ?_
   refine TL.vy (Val.move rfl) ?_
   refine TL.dy (Does.callF go21 rfl (gReplay_no gb rb lb nb cn ob co sn so cfD 4 7 5 ([⟨0, 0⟩, ⟨0, 0⟩, ⟨1, 0⟩, ⟨0, 0⟩] : List On) ([n0, n1, pn, n3] : List Nat) ([o0, o1, n2, o3] : List Nat) (repO pn cfD.window 0 0 0 :: (b21, .cells #[.int .i64 2, .int .i64 2, .int .i64 1, .int .i64 2, .int .i64 1, .int .i64 0, .int .i64 0] 39 (0, 0)) :: (bR, row 5 (bv (sealB (macKey 1 2 0) ⟨2, (2 : Nat), 1, 2, 1, 0, 0⟩) ++ spR)) :: (bK, row 5 (bv ((sealB (macKey 1 2 0) ⟨1, (2 : Nat), 0, 1, 1, 9, 0⟩).set 40 ((sealB (macKey 1 2 0) ⟨1, (2 : Nat), 0, 1, 1, 9, 0⟩).getD 40 0 ^^^ 1)) ++ spK)) :: (b5_, .cells #[.int .i64 1, .int .i64 2, .int .i64 0, .int .i64 1, .int .i64 1, .int .i64 9, .int .i64 0] 39 (0, 0)) :: (bE, row 5 (bv (sealB (macKey 1 2 0) ⟨1, (2 : Nat), 0, 1, 1, 9, 0⟩) ++ spE)) :: sobj sb 1 2 1 0 :: repO n0 cfD.window 0 0 0 :: repO n1 cfD.window 0 0 0 :: repO n2 cfD.window 2 (nextB cfD.window (nextB cfD.window 0)) 0 :: repO n3 cfD.window 0 0 0 :: repO o0 cfD.window 0 0 0 :: repO o1 cfD.window 0 0 0 :: repO o2 cfD.window 0 0 0 :: repO o3 cfD.window 0 0 0 :: M) 9 (by decide))) ?_
   rintro _ _ ⟨rfl, rfl⟩
   refine TL.vy (Val.same (v' := .bool true) (Val.eqlNil rfl rfl pt62) (rfl)) ?_
   refine TL.v (Val.pickAnd rfl rfl rfl) ?_
   refine TL.v (Val.move rfl) ?_
   refine TL.vy (Val.buildS pl26 ze26 rfl rfl) ?_
   refine TL.dy (Does.callF go6 rfl (gNew_nil cfZ _ ⟨by decide, by decide⟩ ⟨by decide, by decide⟩ tg_Z (by decide))) ?_
   rintro _ _ ⟨rfl, rfl⟩
   refine TL.vy (Val.same (v' := .bool true) (Val.eqlNil rfl rfl pt28) (rfl)) ?_
   refine TL.v (Val.pickAnd rfl rfl rfl) ?_
   refine TL.v (Val.assign rfl) ?_
   refine TL.nt ?_
   refine TC.en (E' := [(0, _)]) ?_
   refine TC.ret1 (fn := Tryz.f12) (fun _ _ h => h) rfl (RV.tmp rfl) (M' := M) (by repeat (first | exact ro_refl | exact ro_pre | refine ro_tail ?_ | refine ro_app ?_)) ?_
   exact ⟨rfl, rfl⟩

end Go.Proofs.YtphoapajlcaoeaaGreat
/- walks -/
set_option linter.unusedVariables false
set_option linter.unusedSimpArgs false
set_option maxRecDepth 100000
set_option maxHeartbeats 4000000
namespace Go.Proofs.YtphoapajlcaoeaaGreat
open Go Go.X
/-- quorumite/quorumiteref1.turn -/
theorem refturn_fn (x : Int) (k : Nat) (M : Hp) (hk : k < 64) : FnC Tryz.prog 106 #[.int .u64 x, .int .u64 (k : Nat)] M (fun v M' => v = .int .u64 (rotl x k) ∧ M = M') := by
 refine FnC.intro Tryz.func106 rfl 13 rfl (by simp) (fun z => ?_)
 refine TC.en (E' := [(0, _), (1, _)]) ?_
 refine TC.sr ?_
 refine TL.v (Val.assign rfl) ?_
 refine TL.nt ?_
 refine TC.sr ?_
 refine TL.v (Val.move rfl) ?_
 refine TL.v (Val.move rfl) ?_
 refine TL.v (Val.shl rfl rfl (by omega) (r := IntKind.u64.wrap (x * 2 ^ k)) (by rw [show min ((k : Int)).toNat IntKind.u64.bits = k from by simp only [IntKind.bits]; omega])) ?_
 refine TL.v (Val.move rfl) ?_
 refine TL.v (Val.move rfl) ?_
 refine TL.v (Val.sub rfl rfl (r := ((64 - k : Nat) : Int)) (by rw [w_u64 (by omega) (by omega)]; omega)) ?_
 refine TL.v (Val.shr rfl rfl (by omega) (r := x.fdiv (2 ^ (64 - k))) (by rw [show min (((64 - k : Nat) : Int)).toNat IntKind.u64.bits = 64 - k from by simp only [IntKind.bits]; omega])) ?_
 refine TL.v (Val.or rfl rfl rfl) ?_
 refine TL.v (Val.assign rfl) ?_
 refine TL.nt ?_
 refine TC.en (E' := [(4, _)]) ?_
 refine TC.r1 (hM := (fun _ h => h)) (fn := Tryz.f106) (fun _ _ h => h) rfl (RV.tmp rfl) ?_
 exact ⟨rfl, rfl⟩

/-- quorumite/quorumiteref1.Round -/
theorem refRound_fn (w : W4) (M : Hp) : FnC Tryz.prog 97 #[.int .u64 w.a, .int .u64 w.b, .int .u64 w.c, .int .u64 w.d] M (fun v M' => v = .tuple #[.int .u64 (round1 w).a, .int .u64 (round1 w).b, .int .u64 (round1 w).c, .int .u64 (round1 w).d] ∧ M = M') := by
 refine FnC.intro Tryz.func97 rfl 48 rfl (by simp) (fun z => ?_)
 refine TC.en (E' := [(0, _), (1, _), (2, _), (3, _)]) ?_
 refine TC.sr ?_
 refine TL.v (Val.assign rfl) ?_
 refine TL.v (Val.assign rfl) ?_
 refine TL.v (Val.assign rfl) ?_
 refine TL.v (Val.assign rfl) ?_
 refine TL.nt ?_
 refine TC.sr ?_
 refine TL.v (Val.move rfl) ?_
 refine TL.v (Val.move rfl) ?_
 refine TL.v (Val.add rfl rfl rfl) ?_
 refine TL.v (Val.assign rfl) ?_
 refine TL.nt ?_
 refine TC.sr ?_
 refine TL.v (Val.move rfl) ?_
 refine TL.d (Does.callF go106 rfl (refturn_fn _ 13 _ (by decide))) ?_
 rintro _ _ ⟨rfl, rfl⟩
 refine TL.v (Val.move rfl) ?_
 refine TL.v (Val.xor rfl rfl rfl) ?_
 refine TL.v (Val.assign rfl) ?_
 refine TL.nt ?_
 refine TC.sr ?_
 refine TL.v (Val.move rfl) ?_
 refine TL.d (Does.callF go106 rfl (refturn_fn _ 32 _ (by decide))) ?_
 rintro _ _ ⟨rfl, rfl⟩
 refine TL.v (Val.assign rfl) ?_
 refine TL.nt ?_
 refine TC.en (E' := [(0, _), (1, _), (2, _), (3, _), (8, _), (9, _), (10, _), (11, _)]) ?_
 refine TC.sr ?_
 refine TL.v (Val.move rfl) ?_
 refine TL.v (Val.move rfl) ?_
 refine TL.v (Val.add rfl rfl rfl) ?_
 refine TL.v (Val.assign rfl) ?_
 refine TL.nt ?_
 refine TC.sr ?_
 refine TL.v (Val.move rfl) ?_
 refine TL.d (Does.callF go106 rfl (refturn_fn _ 16 _ (by decide))) ?_
 rintro _ _ ⟨rfl, rfl⟩
 refine TL.v (Val.move rfl) ?_
 refine TL.v (Val.xor rfl rfl rfl) ?_
 refine TL.v (Val.assign rfl) ?_
 refine TL.nt ?_
 refine TC.sr ?_
 refine TL.v (Val.move rfl) ?_
 refine TL.v (Val.move rfl) ?_
 refine TL.v (Val.add rfl rfl rfl) ?_
 refine TL.v (Val.assign rfl) ?_
 refine TL.nt ?_
 refine TC.en (E' := [(0, _), (1, _), (2, _), (3, _), (8, _), (9, _), (10, _), (11, _)]) ?_
 refine TC.sr ?_
 refine TL.v (Val.move rfl) ?_
 refine TL.d (Does.callF go106 rfl (refturn_fn _ 21 _ (by decide))) ?_
 rintro _ _ ⟨rfl, rfl⟩
 refine TL.v (Val.move rfl) ?_
 refine TL.v (Val.xor rfl rfl rfl) ?_
 refine TL.v (Val.assign rfl) ?_
 refine TL.nt ?_
 refine TC.sr ?_
 refine TL.v (Val.move rfl) ?_
 refine TL.v (Val.move rfl) ?_
 refine TL.v (Val.add rfl rfl rfl) ?_
 refine TL.v (Val.assign rfl) ?_
 refine TL.nt ?_
 refine TC.sr ?_
 refine TL.v (Val.move rfl) ?_
 refine TL.d (Does.callF go106 rfl (refturn_fn _ 17 _ (by decide))) ?_
 rintro _ _ ⟨rfl, rfl⟩
 refine TL.v (Val.move rfl) ?_
 refine TL.v (Val.xor rfl rfl rfl) ?_
 refine TL.v (Val.assign rfl) ?_
 refine TL.nt ?_
 refine TC.en (E' := [(0, _), (1, _), (2, _), (3, _), (8, _), (9, _), (10, _), (11, _)]) ?_
 refine TC.sr ?_
 refine TL.v (Val.move rfl) ?_
 refine TL.d (Does.callF go106 rfl (refturn_fn _ 32 _ (by decide))) ?_
 rintro _ _ ⟨rfl, rfl⟩
 refine TL.v (Val.assign rfl) ?_
 refine TL.nt ?_
 refine TC.sr ?_
 refine TL.v (Val.move rfl) ?_
 refine TL.v (Val.move rfl) ?_
 refine TL.v (Val.move rfl) ?_
 refine TL.v (Val.move rfl) ?_
 refine TL.v (Val.assign rfl) ?_
 refine TL.v (Val.assign rfl) ?_
 refine TL.v (Val.assign rfl) ?_
 refine TL.v (Val.assign rfl) ?_
 refine TL.nt ?_
 refine TC.en (E' := [(8, _), (9, _), (10, _), (11, _)]) ?_
 refine TC.ret4 (fn := Tryz.f97) (fun _ _ h => h) rfl (RV.tmp rfl) (RV.tmp rfl) (RV.tmp rfl) (RV.tmp rfl) (fun _ h => h) ?_
 exact ⟨rfl, rfl⟩

/-- quorumite/quorumiteref1.Put -/
theorem refPut_fn (n : Int) (M : Hp) : FnC Tryz.prog 80 #[.int .u64 n] M (fun v M' => v = .string (ofL (put8 n)) ∧ M = M') := by
 refine FnC.intro Tryz.func80 rfl 21 rfl (by simp) (fun z => ?_)
 refine TC.en (E' := [(0, _)]) ?_
 refine TC.sr ?_
 refine TL.v (Val.assign rfl) ?_
 refine TL.nt ?_
 refine TC.sr ?_
 refine TL.d (Does.makeSlice (n := 8) (c := 8) rfl rfl sl34 sz5 by5 ze5 rfl rfl rfl (by omega) (by omega) (by omega)) ?_
 rintro _ _ ⟨b5, rfl, rfl⟩
 refine TL.v (Val.assign rfl) ?_
 refine TL.nt ?_
 refine TC.seq ?_
 refine TC.sr ?_
 refine TL.v (Val.assign rfl) ?_
 refine TL.nt ?_
 refine TC.block ?_
 refine TC.loop (ι := Nat) (fun k => [(0, .int .u64 n), (3, .slice (some ⟨b5, 0, none⟩) 8 8), (4, .int .i64 (k : Nat))]) (fun k => (b5, row 5 (bv (pb n k ++ List.replicate (8 - k) 0) ++ [])) :: M) (fun k => k ≤ 8) (fun k => 8 - k) 0 ?_ (Sub.cons rfl (Sub.cons rfl (Sub.cons rfl (Sub.nil _)))) (fun w h => by simpa [pb, zrep_bytes, Value.cells] using h) ?_
 · exact Nat.zero_le _
 intro k hk
 refine TC.seq ?_
 refine TC.sr ?_
 refine TL.v (Val.move rfl) ?_
 refine TL.v (Val.lss rfl rfl) ?_
 refine TL.nt ?_
 refine TC.condP rfl (fun c1 => ?_) (fun c1 => ?_)
 ·
  refine TC.skip ?_
  refine AtX.then ?_
  refine TC.seq ?_
  refine TC.block ?_
  refine TC.region ?_
  refine TL.v (Val.move rfl) ?_
  refine TL.v (Val.move rfl) ?_
  refine TL.v (Val.move rfl) ?_
  refine TL.v (Val.move rfl) ?_
  refine TL.v (Val.mul rfl rfl (w_i64 (by omega) (by omega))) ?_
  refine TL.v (Val.convI rfl iu3 in37 (w_u64 (by omega) (by omega))) ?_
  refine TL.v (Val.shr rfl rfl (by omega) (shr_val (by omega))) ?_
  refine TL.v (Val.convI rfl iu24 in5 w_b8) ?_
  refine TL.v (Val.indexAddr (i := k) rfl rfl sl34 sz5 rfl (by omega) rfl) ?_
  refine TL.d (Does.storeB (c := byteAt n k) rfl rfl (i := 0) (j := k) rfl (by omega) (by simp; omega) sz5) ?_
  rintro _ _ ⟨rfl, rfl⟩
  refine TL.nil ?_
  refine AtX.blk ?_
  refine AtX.then ?_
  refine TC.region ?_
  refine TL.v (Val.move rfl) ?_
  refine TL.v (Val.add rfl rfl (w_i64 (by omega) (by omega))) ?_
  refine TL.v (Val.assign rfl) ?_
  refine TL.nil ?_
  refine AtX.round (k + 1) ?_ ?_ (Sub.cons rfl (Sub.cons rfl (Sub.cons rfl (Sub.nil _)))) (fun w h => by rw [← pb_set (by omega)]; exact h)
  · omega
  · omega
 ·
  refine TC.exit ?_
  refine AtX.seqX ?_
  refine AtX.seqX ?_
  refine AtX.hit ?_
  refine AtX.then ?_
  refine TC.seq ?_
  have h8 : k = 8 := by omega
  subst h8
  have e8 : pb n 8 ++ List.replicate (8 - 8) 0 = put8 n := by simp [put8]
  rw [e8]
  refine TC.region ?_
  refine TL.v (Val.move rfl) ?_
  refine TL.v (Val.b2s (l := put8 n) rfl us34 ui5 un9 (by simp) (rd_all (i := 0) rfl)) ?_
  refine TL.v (Val.assign rfl) ?_
  refine TL.nt ?_
  refine TC.r1 (hM := (ro_tail ro_refl)) (fn := Tryz.f80) (fun _ _ h => h) rfl (RV.tmp rfl) ?_
  exact ⟨rfl, rfl⟩

/-- quorumite/quorumiteref1.Get -/
theorem refGet_fn (l : List UInt8) (o : Nat) (M : Hp) (hl : l.length ≤ 2000) (ho : o + 8 ≤ l.length) : FnC Tryz.prog 75 #[.string (ofL l), .int .i64 (o : Nat)] M (fun v M' => v = .tuple #[.int .u64 (get8 l o : Nat), .int .i64 0] ∧ M = M') := by
 refine FnC.intro Tryz.func75 rfl 40 rfl (by simp) (fun z => ?_)
 refine TC.en (E' := [(0, _), (1, _)]) ?_
 refine TC.sr ?_
 refine TL.v (Val.assign rfl) ?_
 refine TL.v (Val.assign rfl) ?_
 refine TL.nt ?_
 refine TC.seq ?_
 refine TC.sr ?_
 refine TL.v (Val.move rfl) ?_
 refine TL.v (Val.lss rfl rfl) ?_
 refine TL.v (Val.move rfl) ?_
 refine TL.gen (fun g1 hg1 => ?_)
 refine TL.gv rfl rfl rfl (fun hg => by subst hg; exact (Val.move rfl)) ?_
 refine TL.gv rfl rfl rfl (fun hg => by subst hg; exact (Val.move rfl)) ?_
 refine TL.gv rfl rfl rfl (fun hg => by subst hg; exact (Val.lenL rfl rfl un9)) ?_
 refine TL.gv rfl rfl rfl (fun hg => by subst hg; exact (Val.gtr rfl rfl)) ?_
 refine TL.v (Val.pickOr rfl rfl rfl) ?_
 refine TL.v (Val.move rfl) ?_
 refine TL.gen (fun g2 hg2 => ?_)
 refine TL.gv rfl rfl rfl (fun hg => by subst hg; exact (Val.move rfl)) ?_
 refine TL.gv rfl rfl rfl (fun hg => by subst hg; exact (Val.lenL rfl rfl un9)) ?_
 refine TL.gv rfl rfl rfl (fun hg => by subst hg; exact (Val.move rfl)) ?_
 refine TL.gv rfl rfl rfl (fun hg => by subst hg; exact (Val.sub rfl rfl (w_i64 (by omega) (by omega)))) ?_
 refine TL.gv rfl rfl rfl (fun hg => by subst hg; exact (Val.lss rfl rfl)) ?_
 refine TL.v (Val.pickOr rfl rfl rfl) ?_
 refine TL.nt ?_
 refine TC.en (E' := [(0, _), (1, _), (4, _), (5, _), (22, _)]) ?_
 refine TC.cond rfl (fun c1 => ?_) (fun c1 => ?_)
 ·
  (exfalso; grind)
 ·
  refine TC.skip ?_
  refine AtX.then ?_
  refine TC.sr ?_
  refine TL.v (Val.assign rfl) ?_
  refine TL.nt ?_
  refine TC.seq ?_
  refine TC.sr ?_
  refine TL.v (Val.assign rfl) ?_
  refine TL.nt ?_
  refine TC.block ?_
  refine TC.loop (ι := Nat) (fun k => [(0, .string (ofL l)), (1, .int .i64 o), (6, .int .u64 (getTo l o k : Nat)), (7, .int .i64 (k : Nat))]) (fun _ => M) (fun k => k ≤ 8) (fun k => 8 - k) 0 ?_ (Sub.cons rfl (Sub.cons rfl (Sub.cons rfl (Sub.cons rfl (Sub.nil _))))) (fun _ h => h) ?_
  · exact Nat.zero_le _
  intro k hk
  refine TC.seq ?_
  refine TC.sr ?_
  refine TL.v (Val.move rfl) ?_
  refine TL.v (Val.lss rfl rfl) ?_
  refine TL.nt ?_
  refine TC.condP rfl (fun c2 => ?_) (fun c2 => ?_)
  ·
   refine TC.skip ?_
   refine AtX.then ?_
   refine TC.seq ?_
   refine TC.block ?_
   have hlt : k < 8 := by omega
   have hB := getTo_lt l o k
   have hc : (l.getD (o + k) 0).toNat < 256 := UInt8.toNat_lt _
   refine TC.region ?_
   refine TL.v (Val.move rfl) ?_
   refine TL.v (Val.move rfl) ?_
   refine TL.v (Val.move rfl) ?_
   refine TL.v (Val.move rfl) ?_
   refine TL.v (Val.add rfl rfl (w_i64 (by omega) (by omega))) ?_
   refine TL.v (Val.indexL (i := o + k) rfl rfl un9 (by push_cast; rfl) (by omega)) ?_
   refine TL.v (Val.convI rfl iu5 in24 (w_u64 (by omega) (by omega))) ?_
   refine TL.v (Val.move rfl) ?_
   refine TL.v (Val.mul rfl rfl (w_i64 (by omega) (by omega))) ?_
   refine TL.v (Val.convI rfl iu3 in37 (w_u64 (by omega) (by omega))) ?_
   refine TL.v (Val.shl rfl rfl (by omega) (shl_val hlt hc)) ?_
   refine TL.v (Val.or rfl rfl (or_add hlt hB hc)) ?_
   refine TL.v (Val.assign rfl) ?_
   refine TL.nil ?_
   refine AtX.blk ?_
   refine AtX.then ?_
   refine TC.region ?_
   refine TL.v (Val.move rfl) ?_
   refine TL.v (Val.add rfl rfl (w_i64 (by omega) (by omega))) ?_
   refine TL.v (Val.assign rfl) ?_
   refine TL.nil ?_
   refine AtX.round (k + 1) ?_ ?_ (Sub.cons rfl (Sub.cons rfl (Sub.cons rfl (Sub.cons rfl (Sub.nil _))))) (fun _ h => h)
   · omega
   · omega
  ·
   refine TC.exit ?_
   refine AtX.seqX ?_
   refine AtX.seqX ?_
   refine AtX.hit ?_
   refine AtX.then ?_
   refine TC.sr ?_
   refine TL.v (Val.move rfl) ?_
   refine TL.v (Val.assign rfl) ?_
   refine TL.v (Val.assign rfl) ?_
   refine TL.nt ?_
   refine TC.r2 (hM := (fun _ h => h)) (fn := Tryz.f75) (fun _ _ h => h) rfl (RV.tmp rfl) (RV.tmp rfl) ?_
   refine ⟨?_, rfl⟩
   have : k = 8 := by omega
   subst this; rfl

end Go.Proofs.YtphoapajlcaoeaaGreat
/- walks -/
set_option linter.unusedVariables false
set_option linter.unusedSimpArgs false
set_option maxRecDepth 100000
set_option maxHeartbeats 4000000
namespace Go.Proofs.YtphoapajlcaoeaaGreat
open Go Go.X
/-- quorumite/quorumiteref1.Sum -/
theorem refSip_fn (k : K2) (l : List UInt8) (M : Hp) (hl : l.length ≤ 1000) : FnC Tryz.prog 78 #[.agg #[.int .u64 k.a, .int .u64 k.b], .string (ofL l)] M (fun v M' => v = .int .u64 (sipSum k.a k.b l) ∧ M = M') := by
 refine FnC.intro Tryz.func78 rfl 120 rfl (by simp) (fun z => ?_)
 refine TC.en (E' := [(0, _), (1, _)]) ?_
 refine TC.sr ?_
 refine TL.d (Does.box rfl rfl) ?_
 rintro _ _ ⟨b1, rfl, rfl⟩
 refine TL.v (Val.assign rfl) ?_
 refine TL.nt ?_
 refine TC.sr ?_
 refine TL.v (Val.indexAddrA (i := 0) rfl rfl ar57 sz24 rfl (by first | decide | omega) rfl) ?_
 refine TL.v (Val.load 0 rfl ag24 rfl rfl) ?_
 refine TL.v (Val.xor rfl rfl (r := (keyW k.a k.b).a) (xor64_comm _ _)) ?_
 refine TL.v (Val.indexAddrA (i := 1) rfl rfl ar57 sz24 rfl (by first | decide | omega) rfl) ?_
 refine TL.v (Val.load 0 rfl ag24 rfl rfl) ?_
 refine TL.v (Val.xor rfl rfl (r := (keyW k.a k.b).b) (xor64_comm _ _)) ?_
 refine TL.v (Val.indexAddrA (i := 0) rfl rfl ar57 sz24 rfl (by first | decide | omega) rfl) ?_
 refine TL.v (Val.load 0 rfl ag24 rfl rfl) ?_
 refine TL.v (Val.xor rfl rfl (r := (keyW k.a k.b).c) (xor64_comm _ _)) ?_
 refine TL.v (Val.indexAddrA (i := 1) rfl rfl ar57 sz24 rfl (by first | decide | omega) rfl) ?_
 refine TL.v (Val.load 0 rfl ag24 rfl rfl) ?_
 refine TL.v (Val.xor rfl rfl (r := (keyW k.a k.b).d) (xor64_comm _ _)) ?_
 refine TL.v (Val.buildA ar164 sz24 ze164 rfl rfl) ?_
 refine TL.d (Does.alloc ze164 rfl) ?_
 rintro _ _ ⟨bw, rfl, rfl⟩
 refine TL.d (Does.store (i := 0) rfl rfl rfl sz164 rfl rfl (by first | exact Nat.le_of_ble_eq_true rfl | decide | omega) rfl rfl) ?_
 rintro _ _ ⟨rfl, rfl⟩
 refine TL.nt ?_
 refine TC.en (E' := [(1, _), (4, _), (5, _)]) ?_
 refine TC.join (ι := Unit) (fun _ => [(5, .pointer (some ⟨bw, 0, none⟩)), (6, .string (ofL (padB l)))]) (fun _ => (bw, .cells (wc (keyW k.a k.b)) 164 (0, 0)) :: M) (fun _ => True) ?_ ?_
 ·
  refine TC.drawL ((bw, .cells (wc (keyW k.a k.b)) 164 (0, 0)) :: (b1, .cells #[.int .u64 k.a, .int .u64 k.b] 57 (0, 0)) :: M) mixed 15 ?_
  refine TA.tk 0 1 rfl rfl rfl (Val.move rfl) ?_
  refine TA.tk 1 3 rfl rfl rfl (Val.move rfl) ?_
  refine TA.tk 2 7 rfl rfl rfl (Val.lenL rfl rfl un9) ?_
  refine TA.tk 3 15 rfl rfl rfl (Val.rem rfl rfl (by decide) (r := ((l.length % 8 : Nat) : Int)) (rem_nat _ 8)) ?_
  refine TA.tk 4 31 rfl rfl rfl (Val.sub rfl rfl (r := ((7 - l.length % 8 : Nat) : Int)) (by rw [w_i64 (by omega) (by omega)]; omega)) ?_
  refine TA.tk 8 287 rfl rfl rfl (Val.move rfl) ?_
  refine TA.tk 9 799 rfl rfl rfl (Val.lenL rfl rfl un9) ?_
  refine TA.tk 10 1823 rfl rfl rfl (Val.convI rfl iu3 in5 w_b8) ?_
  refine TA.two 5 11 (by kernel_rfl) ?_ ?_
  ·
   refine TO.dz 1855 (some 30) rfl rfl rfl rfl (Does.makeSlice (n := 7 - l.length % 8) (c := 7 - l.length % 8) rfl rfl sl34 sz5 by5 ze5 rfl rfl rfl (by omega) (by omega) (by omega)) ?_
   rintro _ _ ⟨bz, rfl, rfl⟩
   refine roK ?_
   refine TA.two 6 11 (by kernel_rfl) ?_ ?_
   ·
    refine TO.dz 1919 (some 31) rfl rfl rfl rfl (Val.does (Val.b2s (l := List.replicate (7 - l.length % 8) 0) rfl us34 ui5 un9 (by simp) (rdS_z (i := 0) rfl))) ?_
    rintro _ _ ⟨rfl, rfl⟩
    refine roK ?_
    refine TA.tk 7 2047 rfl rfl rfl (Val.addL rfl rfl (by first | omega | (simp <;> omega))) ?_
    refine TA.one 11 (by kernel_rfl) ?_
    refine TO.dz 4095 (some 36) rfl rfl rfl rfl (Does.buildSlice sl34 sz5 ze5 (by decide) (by decide) rfl rfl rfl) ?_
    rintro _ _ ⟨b2, rfl, rfl⟩
    refine roK ?_
    refine TA.one 12 (by kernel_rfl) ?_
    refine TO.dz 8191 (some 37) rfl rfl rfl rfl (Val.does (Val.b2s (l := [Go.X.b8 l.length]) rfl us34 ui5 un9 rfl (.some (Rd.get (i := 0) rfl rfl)))) ?_
    rintro _ _ ⟨rfl, rfl⟩
    refine roK ?_
    refine TA.tk 13 16383 rfl rfl rfl (Val.addL rfl rfl (by first | omega | (simp <;> omega))) ?_
    refine TA.tk 14 32767 rfl rfl rfl (Val.assign rfl) ?_
    refine TA.done (by kernel_rfl) ?_
    refine AtX.join () ?_ (Sub.cons rfl (Sub.cons rfl (Sub.nil _))) ro_s
    trivial
   ·
    refine TO.dz 3903 (some 36) rfl rfl rfl rfl (Does.buildSlice sl34 sz5 ze5 (by decide) (by decide) rfl rfl rfl) ?_
    rintro _ _ ⟨b3, rfl, rfl⟩
    refine roK ?_
    refine TA.two 6 12 (by kernel_rfl) ?_ ?_
    ·
     refine TO.dz 3967 (some 31) rfl rfl rfl rfl (Val.does (Val.b2s (l := List.replicate (7 - l.length % 8) 0) rfl us34 ui5 un9 (by simp) (rdS_z (i := 1) rfl))) ?_
     rintro _ _ ⟨rfl, rfl⟩
     refine roK ?_
     refine TA.tk 7 4095 rfl rfl rfl (Val.addL rfl rfl (by first | omega | (simp <;> omega))) ?_
     refine TA.one 12 (by kernel_rfl) ?_
     refine TO.dz 8191 (some 37) rfl rfl rfl rfl (Val.does (Val.b2s (l := [Go.X.b8 l.length]) rfl us34 ui5 un9 rfl (.some (Rd.get (i := 0) rfl rfl)))) ?_
     rintro _ _ ⟨rfl, rfl⟩
     refine roK ?_
     refine TA.tk 13 16383 rfl rfl rfl (Val.addL rfl rfl (by first | omega | (simp <;> omega))) ?_
     refine TA.tk 14 32767 rfl rfl rfl (Val.assign rfl) ?_
     refine TA.done (by kernel_rfl) ?_
     refine AtX.join () ?_ (Sub.cons rfl (Sub.cons rfl (Sub.nil _))) ro_s
     trivial
    ·
     refine TO.dz 7999 (some 37) rfl rfl rfl rfl (Val.does (Val.b2s (l := [Go.X.b8 l.length]) rfl us34 ui5 un9 rfl (.some (Rd.get (i := 0) rfl rfl)))) ?_
     rintro _ _ ⟨rfl, rfl⟩
     refine roK ?_
     refine TA.one 6 (by kernel_rfl) ?_
     refine TO.dz 8063 (some 31) rfl rfl rfl rfl (Val.does (Val.b2s (l := List.replicate (7 - l.length % 8) 0) rfl us34 ui5 un9 (by simp) (rdS_z (i := 1) rfl))) ?_
     rintro _ _ ⟨rfl, rfl⟩
     refine roK ?_
     refine TA.tk 7 8191 rfl rfl rfl (Val.addL rfl rfl (by first | omega | (simp <;> omega))) ?_
     refine TA.tk 13 16383 rfl rfl rfl (Val.addL rfl rfl (by first | omega | (simp <;> omega))) ?_
     refine TA.tk 14 32767 rfl rfl rfl (Val.assign rfl) ?_
     refine TA.done (by kernel_rfl) ?_
     refine AtX.join () ?_ (Sub.cons rfl (Sub.cons rfl (Sub.nil _))) ro_s
     trivial
  ·
   refine TO.dz 3871 (some 36) rfl rfl rfl rfl (Does.buildSlice sl34 sz5 ze5 (by decide) (by decide) rfl rfl rfl) ?_
   rintro _ _ ⟨b4, rfl, rfl⟩
   refine roK ?_
   refine TA.two 5 12 (by kernel_rfl) ?_ ?_
   ·
    refine TO.dz 3903 (some 30) rfl rfl rfl rfl (Does.makeSlice (n := 7 - l.length % 8) (c := 7 - l.length % 8) rfl rfl sl34 sz5 by5 ze5 rfl rfl rfl (by omega) (by omega) (by omega)) ?_
    rintro _ _ ⟨bz, rfl, rfl⟩
    refine roK ?_
    refine TA.two 6 12 (by kernel_rfl) ?_ ?_
    ·
     refine TO.dz 3967 (some 31) rfl rfl rfl rfl (Val.does (Val.b2s (l := List.replicate (7 - l.length % 8) 0) rfl us34 ui5 un9 (by simp) (rdS_z (i := 0) rfl))) ?_
     rintro _ _ ⟨rfl, rfl⟩
     refine roK ?_
     refine TA.tk 7 4095 rfl rfl rfl (Val.addL rfl rfl (by first | omega | (simp <;> omega))) ?_
     refine TA.one 12 (by kernel_rfl) ?_
     refine TO.dz 8191 (some 37) rfl rfl rfl rfl (Val.does (Val.b2s (l := [Go.X.b8 l.length]) rfl us34 ui5 un9 rfl (.some (Rd.get (i := 1) rfl rfl)))) ?_
     rintro _ _ ⟨rfl, rfl⟩
     refine roK ?_
     refine TA.tk 13 16383 rfl rfl rfl (Val.addL rfl rfl (by first | omega | (simp <;> omega))) ?_
     refine TA.tk 14 32767 rfl rfl rfl (Val.assign rfl) ?_
     refine TA.done (by kernel_rfl) ?_
     refine AtX.join () ?_ (Sub.cons rfl (Sub.cons rfl (Sub.nil _))) ro_s
     trivial
    ·
     refine TO.dz 7999 (some 37) rfl rfl rfl rfl (Val.does (Val.b2s (l := [Go.X.b8 l.length]) rfl us34 ui5 un9 rfl (.some (Rd.get (i := 1) rfl rfl)))) ?_
     rintro _ _ ⟨rfl, rfl⟩
     refine roK ?_
     refine TA.one 6 (by kernel_rfl) ?_
     refine TO.dz 8063 (some 31) rfl rfl rfl rfl (Val.does (Val.b2s (l := List.replicate (7 - l.length % 8) 0) rfl us34 ui5 un9 (by simp) (rdS_z (i := 0) rfl))) ?_
     rintro _ _ ⟨rfl, rfl⟩
     refine roK ?_
     refine TA.tk 7 8191 rfl rfl rfl (Val.addL rfl rfl (by first | omega | (simp <;> omega))) ?_
     refine TA.tk 13 16383 rfl rfl rfl (Val.addL rfl rfl (by first | omega | (simp <;> omega))) ?_
     refine TA.tk 14 32767 rfl rfl rfl (Val.assign rfl) ?_
     refine TA.done (by kernel_rfl) ?_
     refine AtX.join () ?_ (Sub.cons rfl (Sub.cons rfl (Sub.nil _))) ro_s
     trivial
   ·
    refine TO.dz 7967 (some 37) rfl rfl rfl rfl (Val.does (Val.b2s (l := [Go.X.b8 l.length]) rfl us34 ui5 un9 rfl (.some (Rd.get (i := 0) rfl rfl)))) ?_
    rintro _ _ ⟨rfl, rfl⟩
    refine roK ?_
    refine TA.one 5 (by kernel_rfl) ?_
    refine TO.dz 7999 (some 30) rfl rfl rfl rfl (Does.makeSlice (n := 7 - l.length % 8) (c := 7 - l.length % 8) rfl rfl sl34 sz5 by5 ze5 rfl rfl rfl (by omega) (by omega) (by omega)) ?_
    rintro _ _ ⟨bz, rfl, rfl⟩
    refine roK ?_
    refine TA.one 6 (by kernel_rfl) ?_
    refine TO.dz 8063 (some 31) rfl rfl rfl rfl (Val.does (Val.b2s (l := List.replicate (7 - l.length % 8) 0) rfl us34 ui5 un9 (by simp) (rdS_z (i := 0) rfl))) ?_
    rintro _ _ ⟨rfl, rfl⟩
    refine roK ?_
    refine TA.tk 7 8191 rfl rfl rfl (Val.addL rfl rfl (by first | omega | (simp <;> omega))) ?_
    refine TA.tk 13 16383 rfl rfl rfl (Val.addL rfl rfl (by first | omega | (simp <;> omega))) ?_
    refine TA.tk 14 32767 rfl rfl rfl (Val.assign rfl) ?_
    refine TA.done (by kernel_rfl) ?_
    refine AtX.join () ?_ (Sub.cons rfl (Sub.cons rfl (Sub.nil _))) ro_s
    trivial
 ·
  intro _ _
  have hpl := padB_len l
  refine TC.seq ?_
  refine TC.sr ?_
  refine TL.v (Val.assign rfl) ?_
  refine TL.nt ?_
  refine TC.block ?_
  refine TC.loop (ι := Nat) (fun j => [(5, .pointer (some ⟨bw, 0, none⟩)), (6, .string (ofL (padB l))), (7, .int .i64 ((8 * j : Nat) : Int))]) (fun j => (bw, .cells (wc (absorb (padB l) j (keyW k.a k.b))) 164 (0, 0)) :: M) (fun j => j ≤ l.length / 8 + 1) (fun j => l.length / 8 + 1 - j) 0 ?_ (Sub.cons rfl (Sub.cons rfl (Sub.cons rfl (Sub.nil _)))) (fun _ h => h) ?_
  · exact Nat.zero_le _
  intro j hj
  refine TC.seq ?_
  refine TC.sr ?_
  refine TL.v (Val.move rfl) ?_
  refine TL.v (Val.move rfl) ?_
  refine TL.v (Val.lenL rfl rfl un9) ?_
  refine TL.v (Val.lss rfl rfl) ?_
  refine TL.nt ?_
  refine TC.condP rfl (fun c1 => ?_) (fun c1 => ?_)
  ·
   refine TC.skip ?_
   refine AtX.then ?_
   refine TC.seq ?_
   refine TC.block ?_
   refine TC.seq ?_
   obtain ⟨w1, hw⟩ : ∃ w1, w1 = (absorb (padB l) j (keyW k.a k.b)) := ⟨_, rfl⟩
   rw [← hw]
   refine TC.region ?_
   refine TL.v (Val.move rfl) ?_
   refine TL.v (Val.move rfl) ?_
   refine TL.d (Does.callF go75 rfl (refGet_fn (padB l) (8 * j) _ (by omega) (by omega))) ?_
   rintro _ _ ⟨rfl, rfl⟩
   skip
   refine TL.v (Val.move rfl) ?_
   refine TL.v (Val.extract rfl rfl) ?_
   refine TL.v (Val.extract rfl rfl) ?_
   refine TL.v (Val.assign rfl) ?_
   refine TL.v (Val.assign rfl) ?_
   refine TL.nt ?_
   refine TC.seq ?_
   obtain ⟨m, hm⟩ : ∃ m : Int, m = ((get8 (padB l) (8 * j) : Nat) : Int) := ⟨_, rfl⟩
   rw [← hm]
   obtain ⟨v0, hv0⟩ : ∃ v0 : W4, v0 = { w1 with d := xor64 w1.d m } := ⟨_, rfl⟩
   refine TC.region ?_
   refine TL.v (Val.indexAddrA (i := 3) rfl rfl ar164 sz24 rfl (by first | decide | omega) rfl) ?_
   refine TL.v (Val.load 0 rfl ag24 rfl rfl) ?_
   refine TL.v (Val.move rfl) ?_
   refine TL.v (Val.xor rfl rfl rfl) ?_
   refine TL.v (Val.indexAddrA (i := 3) rfl rfl ar164 sz24 rfl (by first | decide | omega) rfl) ?_
   refine TL.d (Does.store (i := 0) rfl rfl rfl sz24 rfl rfl (by first | exact Nat.le_of_ble_eq_true rfl | decide | omega) rfl rfl) ?_
   rintro _ _ ⟨rfl, rfl⟩
   refine TL.nt ?_
   refine TC.seq ?_
   refine TC.sr ?_
   refine TL.v (Val.assign rfl) ?_
   refine TL.nt ?_
   refine TC.block ?_
   refine TC.loop (ι := Nat) (fun i => [(5, .pointer (some ⟨bw, 0, none⟩)), (6, .string (ofL (padB l))), (7, .int .i64 ((8 * j : Nat) : Int)), (8, .int .u64 m), (10, .int .i64 (i : Nat))]) (fun i => (bw, .cells (wc (rounds i v0)) 164 (0, 0)) :: M) (fun i => i ≤ 2) (fun i => 2 - i) 0 ?_ (Sub.cons rfl (Sub.cons rfl (Sub.cons rfl (Sub.cons rfl (Sub.cons rfl (Sub.nil _)))))) (fun w h => by rw [hv0]; exact h) ?_
   · exact Nat.zero_le _
   intro i hi
   refine TC.seq ?_
   refine TC.sr ?_
   refine TL.v (Val.move rfl) ?_
   refine TL.v (Val.lss rfl rfl) ?_
   refine TL.nt ?_
   refine TC.condP rfl (fun c2 => ?_) (fun c2 => ?_)
   ·
    refine TC.skip ?_
    refine AtX.then ?_
    refine TC.seq ?_
    refine TC.block ?_
    refine TC.region ?_
    refine TL.v (Val.indexAddrA (i := 0) rfl rfl ar164 sz24 rfl (by first | decide | omega) rfl) ?_
    refine TL.v (Val.load 0 rfl ag24 rfl rfl) ?_
    refine TL.v (Val.indexAddrA (i := 1) rfl rfl ar164 sz24 rfl (by first | decide | omega) rfl) ?_
    refine TL.v (Val.load 0 rfl ag24 rfl rfl) ?_
    refine TL.v (Val.indexAddrA (i := 2) rfl rfl ar164 sz24 rfl (by first | decide | omega) rfl) ?_
    refine TL.v (Val.load 0 rfl ag24 rfl rfl) ?_
    refine TL.v (Val.indexAddrA (i := 3) rfl rfl ar164 sz24 rfl (by first | decide | omega) rfl) ?_
    refine TL.v (Val.load 0 rfl ag24 rfl rfl) ?_
    refine TL.d (Does.callF go97 rfl (refRound_fn (rounds i v0) _)) ?_
    rintro _ _ ⟨rfl, rfl⟩
    refine TL.v (Val.move rfl) ?_
    refine TL.v (Val.extract rfl rfl) ?_
    refine TL.v (Val.extract rfl rfl) ?_
    refine TL.v (Val.extract rfl rfl) ?_
    refine TL.v (Val.extract rfl rfl) ?_
    refine TL.v (Val.indexAddrA (i := 0) rfl rfl ar164 sz24 rfl (by first | decide | omega) rfl) ?_
    refine TL.d (Does.store (i := 0) rfl rfl rfl sz24 rfl rfl (by first | exact Nat.le_of_ble_eq_true rfl | decide | omega) rfl rfl) ?_
    rintro _ _ ⟨rfl, rfl⟩
    refine TL.v (Val.indexAddrA (i := 1) rfl rfl ar164 sz24 rfl (by first | decide | omega) rfl) ?_
    refine TL.d (Does.store (i := 0) rfl rfl rfl sz24 rfl rfl (by first | exact Nat.le_of_ble_eq_true rfl | decide | omega) rfl rfl) ?_
    rintro _ _ ⟨rfl, rfl⟩
    refine TL.v (Val.indexAddrA (i := 2) rfl rfl ar164 sz24 rfl (by first | decide | omega) rfl) ?_
    refine TL.d (Does.store (i := 0) rfl rfl rfl sz24 rfl rfl (by first | exact Nat.le_of_ble_eq_true rfl | decide | omega) rfl rfl) ?_
    rintro _ _ ⟨rfl, rfl⟩
    refine TL.v (Val.indexAddrA (i := 3) rfl rfl ar164 sz24 rfl (by first | decide | omega) rfl) ?_
    refine TL.d (Does.store (i := 0) rfl rfl rfl sz24 rfl rfl (by first | exact Nat.le_of_ble_eq_true rfl | decide | omega) rfl rfl) ?_
    rintro _ _ ⟨rfl, rfl⟩
    refine TL.nil ?_
    refine AtX.blk ?_
    refine AtX.then ?_
    refine TC.region ?_
    refine TL.v (Val.move rfl) ?_
    refine TL.v (Val.add rfl rfl (w_i64 (by omega) (by omega))) ?_
    refine TL.v (Val.assign rfl) ?_
    refine TL.nil ?_
    refine AtX.round (i + 1) ?_ ?_ (Sub.cons rfl (Sub.cons rfl (Sub.cons rfl (Sub.cons rfl (Sub.cons rfl (Sub.nil _)))))) (fun _ h => h)
    · omega
    · omega
   ·
    refine TC.exit ?_
    refine AtX.seqX ?_
    refine AtX.seqX ?_
    refine AtX.hit ?_
    refine AtX.then ?_
    have hi2 : i = 2 := by omega
    subst hi2
    refine TC.region ?_
    refine TL.v (Val.indexAddrA (i := 0) rfl rfl ar164 sz24 rfl (by first | decide | omega) rfl) ?_
    refine TL.v (Val.load 0 rfl ag24 rfl rfl) ?_
    refine TL.v (Val.move rfl) ?_
    refine TL.v (Val.xor rfl rfl rfl) ?_
    refine TL.v (Val.indexAddrA (i := 0) rfl rfl ar164 sz24 rfl (by first | decide | omega) rfl) ?_
    refine TL.d (Does.store (i := 0) rfl rfl rfl sz24 rfl rfl (by first | exact Nat.le_of_ble_eq_true rfl | decide | omega) rfl rfl) ?_
    rintro _ _ ⟨rfl, rfl⟩
    refine TL.nil ?_
    refine AtX.blk ?_
    refine AtX.then ?_
    refine TC.region ?_
    refine TL.v (Val.move rfl) ?_
    refine TL.v (Val.add rfl rfl (r := ((8 * (j + 1) : Nat) : Int)) (by rw [w_i64 (by omega) (by omega)]; omega)) ?_
    refine TL.v (Val.assign rfl) ?_
    refine TL.nil ?_
    refine AtX.round (j + 1) ?_ ?_ (Sub.cons rfl (Sub.cons rfl (Sub.cons rfl (Sub.nil _)))) (fun w h => by rw [absorb, ← hm, takeW_eq (show rounds 2 { (absorb (padB l) j (keyW k.a k.b)) with d := xor64 (absorb (padB l) j (keyW k.a k.b)).d m } = rounds 2 v0 from by rw [hv0, hw])]; exact h)
    · omega
    · omega
  ·
   refine TC.exit ?_
   refine AtX.seqX ?_
   refine AtX.seqX ?_
   refine AtX.hit ?_
   refine AtX.then ?_
   refine TC.seq ?_
   have hjw : j = l.length / 8 + 1 := by omega
   subst hjw
   obtain ⟨w1, hw⟩ : ∃ w1, w1 = absorb (padB l) (l.length / 8 + 1) (keyW k.a k.b) := ⟨_, rfl⟩
   rw [← hw]
   obtain ⟨v0, hv0⟩ : ∃ v0 : W4, v0 = { w1 with c := xor64 w1.c 255 } := ⟨_, rfl⟩
   refine TC.region ?_
   refine TL.v (Val.indexAddrA (i := 2) rfl rfl ar164 sz24 rfl (by first | decide | omega) rfl) ?_
   refine TL.v (Val.load 0 rfl ag24 rfl rfl) ?_
   refine TL.v (Val.xor rfl rfl rfl) ?_
   refine TL.v (Val.indexAddrA (i := 2) rfl rfl ar164 sz24 rfl (by first | decide | omega) rfl) ?_
   refine TL.d (Does.store (i := 0) rfl rfl rfl sz24 rfl rfl (by first | exact Nat.le_of_ble_eq_true rfl | decide | omega) rfl rfl) ?_
   rintro _ _ ⟨rfl, rfl⟩
   refine TL.nt ?_
   refine TC.en (E' := [(5, _)]) ?_
   refine TC.seq ?_
   refine TC.sr ?_
   refine TL.v (Val.assign rfl) ?_
   refine TL.nt ?_
   refine TC.block ?_
   refine TC.loop (ι := Nat) (fun i => [(5, .pointer (some ⟨bw, 0, none⟩)), (11, .int .i64 (i : Nat))]) (fun i => (bw, .cells (wc (rounds i v0)) 164 (0, 0)) :: M) (fun i => i ≤ 4) (fun i => 4 - i) 0 ?_ (Sub.cons rfl (Sub.cons rfl (Sub.nil _))) (fun w h => by rw [hv0]; exact h) ?_
   · exact Nat.zero_le _
   intro i hi
   refine TC.seq ?_
   refine TC.sr ?_
   refine TL.v (Val.move rfl) ?_
   refine TL.v (Val.lss rfl rfl) ?_
   refine TL.nt ?_
   refine TC.condP rfl (fun c3 => ?_) (fun c3 => ?_)
   ·
    refine TC.skip ?_
    refine AtX.then ?_
    refine TC.seq ?_
    refine TC.block ?_
    refine TC.region ?_
    refine TL.v (Val.indexAddrA (i := 0) rfl rfl ar164 sz24 rfl (by first | decide | omega) rfl) ?_
    refine TL.v (Val.load 0 rfl ag24 rfl rfl) ?_
    refine TL.v (Val.indexAddrA (i := 1) rfl rfl ar164 sz24 rfl (by first | decide | omega) rfl) ?_
    refine TL.v (Val.load 0 rfl ag24 rfl rfl) ?_
    refine TL.v (Val.indexAddrA (i := 2) rfl rfl ar164 sz24 rfl (by first | decide | omega) rfl) ?_
    refine TL.v (Val.load 0 rfl ag24 rfl rfl) ?_
    refine TL.v (Val.indexAddrA (i := 3) rfl rfl ar164 sz24 rfl (by first | decide | omega) rfl) ?_
    refine TL.v (Val.load 0 rfl ag24 rfl rfl) ?_
    refine TL.d (Does.callF go97 rfl (refRound_fn (rounds i v0) _)) ?_
    rintro _ _ ⟨rfl, rfl⟩
    refine TL.v (Val.move rfl) ?_
    refine TL.v (Val.extract rfl rfl) ?_
    refine TL.v (Val.extract rfl rfl) ?_
    refine TL.v (Val.extract rfl rfl) ?_
    refine TL.v (Val.extract rfl rfl) ?_
    refine TL.v (Val.indexAddrA (i := 0) rfl rfl ar164 sz24 rfl (by first | decide | omega) rfl) ?_
    refine TL.d (Does.store (i := 0) rfl rfl rfl sz24 rfl rfl (by first | exact Nat.le_of_ble_eq_true rfl | decide | omega) rfl rfl) ?_
    rintro _ _ ⟨rfl, rfl⟩
    refine TL.v (Val.indexAddrA (i := 1) rfl rfl ar164 sz24 rfl (by first | decide | omega) rfl) ?_
    refine TL.d (Does.store (i := 0) rfl rfl rfl sz24 rfl rfl (by first | exact Nat.le_of_ble_eq_true rfl | decide | omega) rfl rfl) ?_
    rintro _ _ ⟨rfl, rfl⟩
    refine TL.v (Val.indexAddrA (i := 2) rfl rfl ar164 sz24 rfl (by first | decide | omega) rfl) ?_
    refine TL.d (Does.store (i := 0) rfl rfl rfl sz24 rfl rfl (by first | exact Nat.le_of_ble_eq_true rfl | decide | omega) rfl rfl) ?_
    rintro _ _ ⟨rfl, rfl⟩
    refine TL.v (Val.indexAddrA (i := 3) rfl rfl ar164 sz24 rfl (by first | decide | omega) rfl) ?_
    refine TL.d (Does.store (i := 0) rfl rfl rfl sz24 rfl rfl (by first | exact Nat.le_of_ble_eq_true rfl | decide | omega) rfl rfl) ?_
    rintro _ _ ⟨rfl, rfl⟩
    refine TL.nil ?_
    refine AtX.blk ?_
    refine AtX.then ?_
    refine TC.region ?_
    refine TL.v (Val.move rfl) ?_
    refine TL.v (Val.add rfl rfl (w_i64 (by omega) (by omega))) ?_
    refine TL.v (Val.assign rfl) ?_
    refine TL.nil ?_
    refine AtX.round (i + 1) ?_ ?_ (Sub.cons rfl (Sub.cons rfl (Sub.nil _))) (fun _ h => h)
    · omega
    · omega
   ·
    refine TC.exit ?_
    refine AtX.seqX ?_
    refine AtX.seqX ?_
    refine AtX.hit ?_
    refine AtX.then ?_
    refine TC.seq ?_
    have hi4 : i = 4 := by omega
    subst hi4
    refine TC.region ?_
    refine TL.v (Val.indexAddrA (i := 0) rfl rfl ar164 sz24 rfl (by first | decide | omega) rfl) ?_
    refine TL.v (Val.load 0 rfl ag24 rfl rfl) ?_
    refine TL.v (Val.indexAddrA (i := 1) rfl rfl ar164 sz24 rfl (by first | decide | omega) rfl) ?_
    refine TL.v (Val.load 0 rfl ag24 rfl rfl) ?_
    refine TL.v (Val.xor rfl rfl rfl) ?_
    refine TL.v (Val.indexAddrA (i := 2) rfl rfl ar164 sz24 rfl (by first | decide | omega) rfl) ?_
    refine TL.v (Val.load 0 rfl ag24 rfl rfl) ?_
    refine TL.v (Val.xor rfl rfl rfl) ?_
    refine TL.v (Val.indexAddrA (i := 3) rfl rfl ar164 sz24 rfl (by first | decide | omega) rfl) ?_
    refine TL.v (Val.load 0 rfl ag24 rfl rfl) ?_
    refine TL.v (Val.xor rfl rfl rfl) ?_
    refine TL.v (Val.assign rfl) ?_
    refine TL.nt ?_
    refine TC.en (E' := [(4, _)]) ?_
    refine TC.r1 (M' := M) (fn := Tryz.f78) (fun _ _ h => h) rfl (RV.tmp rfl) ?_
    refine ⟨?_, rfl⟩
    rw [← sum_pad, ← hw, endW_eq (show rounds 4 { w1 with c := xor64 w1.c 255 } = rounds 4 v0 from by rw [hv0])]
    rfl

end Go.Proofs.YtphoapajlcaoeaaGreat
/- walks -/
set_option linter.unusedVariables false
set_option linter.unusedSimpArgs false
set_option maxRecDepth 100000
set_option maxHeartbeats 4000000
namespace Go.Proofs.YtphoapajlcaoeaaGreat
open Go Go.X
/-- quorumite/quorumiteref1.Tag -/
theorem refTag_fn (k : K2) (l : List UInt8) (M : Hp) (hl : l.length ≤ 1000) : FnC Tryz.prog 42 #[.agg #[.int .u64 k.a, .int .u64 k.b], .string (ofL l)] M (fun v M' => v = .agg #[.int .u64 (tagOf k l).a, .int .u64 (tagOf k l).b] ∧ M = M') := by
 refine FnC.intro Tryz.func42 rfl 17 rfl (by simp) (fun z => ?_)
 refine TC.en (E' := [(0, _), (1, _)]) ?_
 refine TC.sr ?_
 refine TL.d (Does.box rfl rfl) ?_
 rintro _ _ ⟨b1, rfl, rfl⟩
 refine TL.d (Does.alloc ze98 rfl) ?_
 rintro _ _ ⟨b2, rfl, rfl⟩
 refine TL.nt ?_
 refine TC.seq ?_
 refine TC.drawL ((b1, .cells #[.int .u64 k.a, .int .u64 k.b] 57 (0, 0)) :: M) mixed 13 ?_
 refine TA.tk 0 1 rfl rfl rfl (Val.loadAgg 0 rfl ag57 sz57 rfl rfl rfl) ?_ (hro := ro_s)
 refine TA.tk 1 3 rfl rfl rfl (Val.move rfl) ?_ (hro := ro_s)
 refine TA.tk 3 11 rfl rfl rfl (Val.indexAddrA (i := 1) rfl rfl ar57 sz24 rfl (by first | decide | omega) rfl) ?_ (hro := ro_s)
 refine TA.tk 4 27 rfl rfl rfl (Val.load 0 rfl ag24 rfl rfl) ?_ (hro := ro_s)
 refine TA.tk 5 59 rfl rfl rfl (Val.indexAddrA (i := 0) rfl rfl ar57 sz24 rfl (by first | decide | omega) rfl) ?_ (hro := ro_s)
 refine TA.tk 6 123 rfl rfl rfl (Val.load 0 rfl ag24 rfl rfl) ?_ (hro := ro_s)
 refine TA.tk 7 251 rfl rfl rfl (Val.xorU rfl (r := not64 k.a) rfl) ?_ (hro := ro_s)
 refine TA.tk 8 507 rfl rfl rfl (Val.buildA ar57 sz24 ze57 rfl rfl) ?_ (hro := ro_s)
 refine TA.tk 9 1019 rfl rfl rfl (Val.move rfl) ?_ (hro := ro_s)
 refine TA.one 2 (by kernel_rfl) ?_
 refine TO.dz 1023 (some 7) rfl rfl rfl rfl (Does.callF go78 rfl (refSip_fn k l _ hl)) ?_
 rintro _ _ ⟨rfl, rfl⟩
 refine ⟨ro_s, ?_⟩
 refine TA.one 10 (by kernel_rfl) ?_
 refine TO.dz 2047 (some 15) rfl rfl rfl rfl (Does.callF go78 rfl (refSip_fn ⟨k.b, not64 k.a⟩ l _ hl)) ?_
 rintro _ _ ⟨rfl, rfl⟩
 refine ⟨ro_s, ?_⟩
 refine TA.tk 11 4095 rfl rfl rfl (Val.buildA ar98 sz24 ze98 rfl rfl) ?_ (hro := ro_s)
 refine TA.one 12 (by kernel_rfl) ?_
 refine TO.dz 8191 none rfl rfl rfl rfl (Does.store (i := 0) rfl rfl rfl sz98 rfl rfl (by first | exact Nat.le_of_ble_eq_true rfl | decide | omega) rfl rfl) ?_
 rintro _ _ ⟨rfl, rfl⟩
 refine ⟨ro_s, ?_⟩
 refine TA.done (by kernel_rfl) ?_
 refine AtX.then ?_
 refine TC.en (E' := [(4, _)]) ?_
 refine TC.r1 (M' := M) (fn := Tryz.f42) (fun _ _ h => h) rfl (RV.agg (i := 0) rfl ag98 sz98 rfl rfl rfl) ?_
 exact ⟨rfl, rfl⟩

/-- quorumite/quorumiteref1.TagBytes -/
theorem refTagB_fn (t : K2) (M : Hp) : FnC Tryz.prog 49 #[.agg #[.int .u64 t.a, .int .u64 t.b]] M (fun v M' => v = .string (ofL (tagB t)) ∧ M = M') := by
 refine FnC.intro Tryz.func49 rfl 10 rfl (by simp) (fun z => ?_)
 refine TC.en (E' := [(0, _)]) ?_
 refine TC.sr ?_
 refine TL.d (Does.box rfl rfl) ?_
 rintro _ _ ⟨b1, rfl, rfl⟩
 refine TL.v (Val.assign rfl) ?_
 refine TL.nt ?_
 refine TC.seq ?_
 refine TC.drawLM mixed 8 ?_
 refine TA.tk 0 1 rfl rfl rfl (Val.indexAddrA (i := 0) rfl rfl ar98 sz24 rfl (by first | decide | omega) rfl) ?_ (hro := ro_s)
 refine TA.tk 1 3 rfl rfl rfl (Val.load 0 rfl ag24 rfl rfl) ?_ (hro := ro_s)
 refine TA.tk 3 11 rfl rfl rfl (Val.indexAddrA (i := 1) rfl rfl ar98 sz24 rfl (by first | decide | omega) rfl) ?_ (hro := ro_s)
 refine TA.tk 4 27 rfl rfl rfl (Val.load 0 rfl ag24 rfl rfl) ?_ (hro := ro_s)
 refine TA.one 2 (by kernel_rfl) ?_
 refine TO.dz 31 (some 5) rfl rfl rfl rfl (Does.callF go80 rfl (refPut_fn _ _)) ?_
 rintro _ _ ⟨rfl, rfl⟩
 refine ⟨ro_s, ?_⟩
 refine TA.one 5 (by kernel_rfl) ?_
 refine TO.dz 63 (some 8) rfl rfl rfl rfl (Does.callF go80 rfl (refPut_fn _ _)) ?_
 rintro _ _ ⟨rfl, rfl⟩
 refine ⟨ro_s, ?_⟩
 refine TA.tk 6 127 rfl rfl rfl (Val.addL rfl rfl (by first | omega | (simp <;> omega))) ?_ (hro := ro_s)
 refine TA.tk 7 255 rfl rfl rfl (Val.assign rfl) ?_ (hro := ro_s)
 refine TA.done (by kernel_rfl) ?_
 refine AtX.then ?_
 refine TC.en (E' := [(2, _)]) ?_
 refine TC.r1 (M' := M) (fn := Tryz.f49) (fun _ _ h => h) rfl (RV.tmp rfl) ?_
 exact ⟨rfl, rfl⟩

/-- quorumite/quorumiteref1.Derive -/
theorem refDerive_fn (k : K2) (lab : List UInt8) (n : Int) (M : Hp) (hlab : lab.length ≤ 100) : FnC Tryz.prog 50 #[.agg #[.int .u64 k.a, .int .u64 k.b], .string (ofL lab), .int .u64 n] M (fun v M' => v = .agg #[.int .u64 (deriveK k lab n).a, .int .u64 (deriveK k lab n).b] ∧ M = M') := by
 refine FnC.intro Tryz.func50 rfl 26 rfl (by simp) (fun z => ?_)
 refine TC.en (E' := [(0, _), (1, _), (2, _)]) ?_
 refine TC.sr ?_
 refine TL.d (Does.box rfl rfl) ?_
 rintro _ _ ⟨b1, rfl, rfl⟩
 refine TL.d (Does.alloc ze57 rfl) ?_
 rintro _ _ ⟨bR_, rfl, rfl⟩
 refine TL.nt ?_
 refine TC.join (ι := Unit) (fun _ => [(6, .pointer (some ⟨bR_, 0, none⟩))]) (fun _ => (bR_, .cells #[.int .u64 (deriveK k lab n).a, .int .u64 (deriveK k lab n).b] 57 (0, 0)) :: M) (fun _ => True) ?_ ?_
 ·
  refine TC.drawL ((b1, .cells #[.int .u64 k.a, .int .u64 k.b] 57 (0, 0)) :: M) mixed 20 ?_
  refine TA.tk 0 1 rfl rfl rfl (Val.loadAgg 0 rfl ag57 sz57 rfl rfl rfl) ?_ (hro := ro_s)
  refine TA.tk 1 3 rfl rfl rfl (Val.move rfl) ?_ (hro := ro_s)
  refine TA.tk 5 35 rfl rfl rfl (Val.move rfl) ?_ (hro := ro_s)
  refine TA.tk 9 547 rfl rfl rfl (Val.loadAgg 0 rfl ag57 sz57 rfl rfl rfl) ?_ (hro := ro_s)
  refine TA.tk 10 1571 rfl rfl rfl (Val.move rfl) ?_ (hro := ro_s)
  refine TA.tk 14 17955 rfl rfl rfl (Val.move rfl) ?_ (hro := ro_s)
  refine TA.three 2 6 11 (by kernel_rfl) ?_ ?_ ?_
  ·
   refine TO.dz 17959 (some 9) rfl rfl rfl rfl (Does.buildSlice sl34 sz5 ze5 (by decide) (by decide) rfl rfl rfl) ?_
   rintro _ _ ⟨b2, rfl, rfl⟩
   refine ⟨ro_s, ?_⟩
   refine TA.three 3 6 11 (by kernel_rfl) ?_ ?_ ?_
   ·
    refine TO.dz 17967 (some 10) rfl rfl rfl rfl (Val.does (Val.b2s (l := [1]) rfl us34 ui5 un9 rfl (.some (Rd.get (i := 0) rfl rfl)))) ?_
    rintro _ _ ⟨rfl, rfl⟩
    refine ⟨ro_s, ?_⟩
    refine TA.tk 4 17983 rfl rfl rfl (Val.addL (b := [1]) rfl rfl (by simp; omega)) ?_ (hro := ro_s)
    refine TA.two 6 11 (by kernel_rfl) ?_ ?_
    ·
     refine TO.dz 18047 (some 13) rfl rfl rfl rfl (Does.callF go80 rfl (refPut_fn _ _)) ?_
     rintro _ _ ⟨rfl, rfl⟩
     refine ⟨ro_s, ?_⟩
     refine TA.tk 7 18175 rfl rfl rfl (Val.addL rfl rfl (by first | omega | (simp <;> omega))) ?_ (hro := ro_s)
     refine TA.two 8 11 (by kernel_rfl) ?_ ?_
     ·
      refine TO.dz 18431 (some 15) rfl rfl rfl rfl (Does.callF go78 rfl (refSip_fn k (lab ++ [1] ++ put8 n) _ (by simp; omega))) ?_
      rintro _ _ ⟨rfl, rfl⟩
      refine ⟨ro_s, ?_⟩
      refine TA.two 11 15 (by kernel_rfl) ?_ ?_
      ·
       refine TO.dz 20479 (some 18) rfl rfl rfl rfl (Does.buildSlice sl34 sz5 ze5 (by decide) (by decide) rfl rfl rfl) ?_
       rintro _ _ ⟨b4, rfl, rfl⟩
       refine ⟨ro_s, ?_⟩
       refine TA.two 12 15 (by kernel_rfl) ?_ ?_
       ·
        refine TO.dz 24575 (some 19) rfl rfl rfl rfl (Val.does (Val.b2s (l := [2]) rfl us34 ui5 un9 rfl (.some (Rd.get (i := 0) rfl rfl)))) ?_
        rintro _ _ ⟨rfl, rfl⟩
        refine ⟨ro_s, ?_⟩
        refine TA.tk 13 32767 rfl rfl rfl (Val.addL (b := [2]) rfl rfl (by simp; omega)) ?_ (hro := ro_s)
        refine TA.one 15 (by kernel_rfl) ?_
        refine TO.dz 65535 (some 22) rfl rfl rfl rfl (Does.callF go80 rfl (refPut_fn _ _)) ?_
        rintro _ _ ⟨rfl, rfl⟩
        refine ⟨ro_s, ?_⟩
        refine TA.tk 16 131071 rfl rfl rfl (Val.addL rfl rfl (by first | omega | (simp <;> omega))) ?_ (hro := ro_s)
        refine TA.one 17 (by kernel_rfl) ?_
        refine TO.dz 262143 (some 24) rfl rfl rfl rfl (Does.callF go78 rfl (refSip_fn k (lab ++ [2] ++ put8 n) _ (by simp; omega))) ?_
        rintro _ _ ⟨rfl, rfl⟩
        refine ⟨ro_s, ?_⟩
        refine TA.tk 18 524287 rfl rfl rfl (Val.buildA ar57 sz24 ze57 rfl rfl) ?_ (hro := ro_s)
        refine TA.one 19 (by kernel_rfl) ?_
        refine TO.dz 1048575 none rfl rfl rfl rfl (Does.store (i := 2) rfl rfl rfl sz57 rfl rfl (by first | exact Nat.le_of_ble_eq_true rfl | decide | omega) rfl rfl) ?_
        rintro _ _ ⟨rfl, rfl⟩
        refine ⟨ro_s, ?_⟩
        refine TA.done (by kernel_rfl) ?_
        refine AtX.join () ?_ (Sub.cons rfl (Sub.nil _)) ro_s
        trivial
       ·
        refine TO.dz 53247 (some 22) rfl rfl rfl rfl (Does.callF go80 rfl (refPut_fn _ _)) ?_
        rintro _ _ ⟨rfl, rfl⟩
        refine ⟨ro_s, ?_⟩
        refine TA.one 12 (by kernel_rfl) ?_
        refine TO.dz 57343 (some 19) rfl rfl rfl rfl (Val.does (Val.b2s (l := [2]) rfl us34 ui5 un9 rfl (.some (Rd.get (i := 0) rfl rfl)))) ?_
        rintro _ _ ⟨rfl, rfl⟩
        refine ⟨ro_s, ?_⟩
        refine TA.tk 13 65535 rfl rfl rfl (Val.addL (b := [2]) rfl rfl (by simp; omega)) ?_ (hro := ro_s)
        refine TA.tk 16 131071 rfl rfl rfl (Val.addL rfl rfl (by first | omega | (simp <;> omega))) ?_ (hro := ro_s)
        refine TA.one 17 (by kernel_rfl) ?_
        refine TO.dz 262143 (some 24) rfl rfl rfl rfl (Does.callF go78 rfl (refSip_fn k (lab ++ [2] ++ put8 n) _ (by simp; omega))) ?_
        rintro _ _ ⟨rfl, rfl⟩
        refine ⟨ro_s, ?_⟩
        refine TA.tk 18 524287 rfl rfl rfl (Val.buildA ar57 sz24 ze57 rfl rfl) ?_ (hro := ro_s)
        refine TA.one 19 (by kernel_rfl) ?_
        refine TO.dz 1048575 none rfl rfl rfl rfl (Does.store (i := 2) rfl rfl rfl sz57 rfl rfl (by first | exact Nat.le_of_ble_eq_true rfl | decide | omega) rfl rfl) ?_
        rintro _ _ ⟨rfl, rfl⟩
        refine ⟨ro_s, ?_⟩
        refine TA.done (by kernel_rfl) ?_
        refine AtX.join () ?_ (Sub.cons rfl (Sub.nil _)) ro_s
        trivial
      ·
       refine TO.dz 51199 (some 22) rfl rfl rfl rfl (Does.callF go80 rfl (refPut_fn _ _)) ?_
       rintro _ _ ⟨rfl, rfl⟩
       refine ⟨ro_s, ?_⟩
       refine TA.one 11 (by kernel_rfl) ?_
       refine TO.dz 53247 (some 18) rfl rfl rfl rfl (Does.buildSlice sl34 sz5 ze5 (by decide) (by decide) rfl rfl rfl) ?_
       rintro _ _ ⟨b8, rfl, rfl⟩
       refine ⟨ro_s, ?_⟩
       refine TA.one 12 (by kernel_rfl) ?_
       refine TO.dz 57343 (some 19) rfl rfl rfl rfl (Val.does (Val.b2s (l := [2]) rfl us34 ui5 un9 rfl (.some (Rd.get (i := 0) rfl rfl)))) ?_
       rintro _ _ ⟨rfl, rfl⟩
       refine ⟨ro_s, ?_⟩
       refine TA.tk 13 65535 rfl rfl rfl (Val.addL (b := [2]) rfl rfl (by simp; omega)) ?_ (hro := ro_s)
       refine TA.tk 16 131071 rfl rfl rfl (Val.addL rfl rfl (by first | omega | (simp <;> omega))) ?_ (hro := ro_s)
       refine TA.one 17 (by kernel_rfl) ?_
       refine TO.dz 262143 (some 24) rfl rfl rfl rfl (Does.callF go78 rfl (refSip_fn k (lab ++ [2] ++ put8 n) _ (by simp; omega))) ?_
       rintro _ _ ⟨rfl, rfl⟩
       refine ⟨ro_s, ?_⟩
       refine TA.tk 18 524287 rfl rfl rfl (Val.buildA ar57 sz24 ze57 rfl rfl) ?_ (hro := ro_s)
       refine TA.one 19 (by kernel_rfl) ?_
       refine TO.dz 1048575 none rfl rfl rfl rfl (Does.store (i := 2) rfl rfl rfl sz57 rfl rfl (by first | exact Nat.le_of_ble_eq_true rfl | decide | omega) rfl rfl) ?_
       rintro _ _ ⟨rfl, rfl⟩
       refine ⟨ro_s, ?_⟩
       refine TA.done (by kernel_rfl) ?_
       refine AtX.join () ?_ (Sub.cons rfl (Sub.nil _)) ro_s
       trivial
     ·
      refine TO.dz 20223 (some 18) rfl rfl rfl rfl (Does.buildSlice sl34 sz5 ze5 (by decide) (by decide) rfl rfl rfl) ?_
      rintro _ _ ⟨b9, rfl, rfl⟩
      refine ⟨ro_s, ?_⟩
      refine TA.two 8 12 (by kernel_rfl) ?_ ?_
      ·
       refine TO.dz 20479 (some 15) rfl rfl rfl rfl (Does.callF go78 rfl (refSip_fn k (lab ++ [1] ++ put8 n) _ (by simp; omega))) ?_
       rintro _ _ ⟨rfl, rfl⟩
       refine ⟨ro_s, ?_⟩
       refine TA.two 12 15 (by kernel_rfl) ?_ ?_
       ·
        refine TO.dz 24575 (some 19) rfl rfl rfl rfl (Val.does (Val.b2s (l := [2]) rfl us34 ui5 un9 rfl (.some (Rd.get (i := 0) rfl rfl)))) ?_
        rintro _ _ ⟨rfl, rfl⟩
        refine ⟨ro_s, ?_⟩
        refine TA.tk 13 32767 rfl rfl rfl (Val.addL (b := [2]) rfl rfl (by simp; omega)) ?_ (hro := ro_s)
        refine TA.one 15 (by kernel_rfl) ?_
        refine TO.dz 65535 (some 22) rfl rfl rfl rfl (Does.callF go80 rfl (refPut_fn _ _)) ?_
        rintro _ _ ⟨rfl, rfl⟩
        refine ⟨ro_s, ?_⟩
        refine TA.tk 16 131071 rfl rfl rfl (Val.addL rfl rfl (by first | omega | (simp <;> omega))) ?_ (hro := ro_s)
        refine TA.one 17 (by kernel_rfl) ?_
        refine TO.dz 262143 (some 24) rfl rfl rfl rfl (Does.callF go78 rfl (refSip_fn k (lab ++ [2] ++ put8 n) _ (by simp; omega))) ?_
        rintro _ _ ⟨rfl, rfl⟩
        refine ⟨ro_s, ?_⟩
        refine TA.tk 18 524287 rfl rfl rfl (Val.buildA ar57 sz24 ze57 rfl rfl) ?_ (hro := ro_s)
        refine TA.one 19 (by kernel_rfl) ?_
        refine TO.dz 1048575 none rfl rfl rfl rfl (Does.store (i := 2) rfl rfl rfl sz57 rfl rfl (by first | exact Nat.le_of_ble_eq_true rfl | decide | omega) rfl rfl) ?_
        rintro _ _ ⟨rfl, rfl⟩
        refine ⟨ro_s, ?_⟩
        refine TA.done (by kernel_rfl) ?_
        refine AtX.join () ?_ (Sub.cons rfl (Sub.nil _)) ro_s
        trivial
       ·
        refine TO.dz 53247 (some 22) rfl rfl rfl rfl (Does.callF go80 rfl (refPut_fn _ _)) ?_
        rintro _ _ ⟨rfl, rfl⟩
        refine ⟨ro_s, ?_⟩
        refine TA.one 12 (by kernel_rfl) ?_
        refine TO.dz 57343 (some 19) rfl rfl rfl rfl (Val.does (Val.b2s (l := [2]) rfl us34 ui5 un9 rfl (.some (Rd.get (i := 0) rfl rfl)))) ?_
        rintro _ _ ⟨rfl, rfl⟩
        refine ⟨ro_s, ?_⟩
        refine TA.tk 13 65535 rfl rfl rfl (Val.addL (b := [2]) rfl rfl (by simp; omega)) ?_ (hro := ro_s)
        refine TA.tk 16 131071 rfl rfl rfl (Val.addL rfl rfl (by first | omega | (simp <;> omega))) ?_ (hro := ro_s)
        refine TA.one 17 (by kernel_rfl) ?_
        refine TO.dz 262143 (some 24) rfl rfl rfl rfl (Does.callF go78 rfl (refSip_fn k (lab ++ [2] ++ put8 n) _ (by simp; omega))) ?_
        rintro _ _ ⟨rfl, rfl⟩
        refine ⟨ro_s, ?_⟩
        refine TA.tk 18 524287 rfl rfl rfl (Val.buildA ar57 sz24 ze57 rfl rfl) ?_ (hro := ro_s)
        refine TA.one 19 (by kernel_rfl) ?_
        refine TO.dz 1048575 none rfl rfl rfl rfl (Does.store (i := 2) rfl rfl rfl sz57 rfl rfl (by first | exact Nat.le_of_ble_eq_true rfl | decide | omega) rfl rfl) ?_
        rintro _ _ ⟨rfl, rfl⟩
        refine ⟨ro_s, ?_⟩
        refine TA.done (by kernel_rfl) ?_
        refine AtX.join () ?_ (Sub.cons rfl (Sub.nil _)) ro_s
        trivial
      ·
       refine TO.dz 24319 (some 19) rfl rfl rfl rfl (Val.does (Val.b2s (l := [2]) rfl us34 ui5 un9 rfl (.some (Rd.get (i := 0) rfl rfl)))) ?_
       rintro _ _ ⟨rfl, rfl⟩
       refine ⟨ro_s, ?_⟩
       refine TA.tk 13 32511 rfl rfl rfl (Val.addL (b := [2]) rfl rfl (by simp; omega)) ?_ (hro := ro_s)
       refine TA.one 8 (by kernel_rfl) ?_
       refine TO.dz 32767 (some 15) rfl rfl rfl rfl (Does.callF go78 rfl (refSip_fn k (lab ++ [1] ++ put8 n) _ (by simp; omega))) ?_
       rintro _ _ ⟨rfl, rfl⟩
       refine ⟨ro_s, ?_⟩
       refine TA.one 15 (by kernel_rfl) ?_
       refine TO.dz 65535 (some 22) rfl rfl rfl rfl (Does.callF go80 rfl (refPut_fn _ _)) ?_
       rintro _ _ ⟨rfl, rfl⟩
       refine ⟨ro_s, ?_⟩
       refine TA.tk 16 131071 rfl rfl rfl (Val.addL rfl rfl (by first | omega | (simp <;> omega))) ?_ (hro := ro_s)
       refine TA.one 17 (by kernel_rfl) ?_
       refine TO.dz 262143 (some 24) rfl rfl rfl rfl (Does.callF go78 rfl (refSip_fn k (lab ++ [2] ++ put8 n) _ (by simp; omega))) ?_
       rintro _ _ ⟨rfl, rfl⟩
       refine ⟨ro_s, ?_⟩
       refine TA.tk 18 524287 rfl rfl rfl (Val.buildA ar57 sz24 ze57 rfl rfl) ?_ (hro := ro_s)
       refine TA.one 19 (by kernel_rfl) ?_
       refine TO.dz 1048575 none rfl rfl rfl rfl (Does.store (i := 2) rfl rfl rfl sz57 rfl rfl (by first | exact Nat.le_of_ble_eq_true rfl | decide | omega) rfl rfl) ?_
       rintro _ _ ⟨rfl, rfl⟩
       refine ⟨ro_s, ?_⟩
       refine TA.done (by kernel_rfl) ?_
       refine AtX.join () ?_ (Sub.cons rfl (Sub.nil _)) ro_s
       trivial
    ·
     refine TO.dz 20031 (some 18) rfl rfl rfl rfl (Does.buildSlice sl34 sz5 ze5 (by decide) (by decide) rfl rfl rfl) ?_
     rintro _ _ ⟨b13, rfl, rfl⟩
     refine ⟨ro_s, ?_⟩
     refine TA.two 6 12 (by kernel_rfl) ?_ ?_
     ·
      refine TO.dz 20095 (some 13) rfl rfl rfl rfl (Does.callF go80 rfl (refPut_fn _ _)) ?_
      rintro _ _ ⟨rfl, rfl⟩
      refine ⟨ro_s, ?_⟩
      refine TA.tk 7 20223 rfl rfl rfl (Val.addL rfl rfl (by first | omega | (simp <;> omega))) ?_ (hro := ro_s)
      refine TA.two 8 12 (by kernel_rfl) ?_ ?_
      ·
       refine TO.dz 20479 (some 15) rfl rfl rfl rfl (Does.callF go78 rfl (refSip_fn k (lab ++ [1] ++ put8 n) _ (by simp; omega))) ?_
       rintro _ _ ⟨rfl, rfl⟩
       refine ⟨ro_s, ?_⟩
       refine TA.two 12 15 (by kernel_rfl) ?_ ?_
       ·
        refine TO.dz 24575 (some 19) rfl rfl rfl rfl (Val.does (Val.b2s (l := [2]) rfl us34 ui5 un9 rfl (.some (Rd.get (i := 0) rfl rfl)))) ?_
        rintro _ _ ⟨rfl, rfl⟩
        refine ⟨ro_s, ?_⟩
        refine TA.tk 13 32767 rfl rfl rfl (Val.addL (b := [2]) rfl rfl (by simp; omega)) ?_ (hro := ro_s)
        refine TA.one 15 (by kernel_rfl) ?_
        refine TO.dz 65535 (some 22) rfl rfl rfl rfl (Does.callF go80 rfl (refPut_fn _ _)) ?_
        rintro _ _ ⟨rfl, rfl⟩
        refine ⟨ro_s, ?_⟩
        refine TA.tk 16 131071 rfl rfl rfl (Val.addL rfl rfl (by first | omega | (simp <;> omega))) ?_ (hro := ro_s)
        refine TA.one 17 (by kernel_rfl) ?_
        refine TO.dz 262143 (some 24) rfl rfl rfl rfl (Does.callF go78 rfl (refSip_fn k (lab ++ [2] ++ put8 n) _ (by simp; omega))) ?_
        rintro _ _ ⟨rfl, rfl⟩
        refine ⟨ro_s, ?_⟩
        refine TA.tk 18 524287 rfl rfl rfl (Val.buildA ar57 sz24 ze57 rfl rfl) ?_ (hro := ro_s)
        refine TA.one 19 (by kernel_rfl) ?_
        refine TO.dz 1048575 none rfl rfl rfl rfl (Does.store (i := 2) rfl rfl rfl sz57 rfl rfl (by first | exact Nat.le_of_ble_eq_true rfl | decide | omega) rfl rfl) ?_
        rintro _ _ ⟨rfl, rfl⟩
        refine ⟨ro_s, ?_⟩
        refine TA.done (by kernel_rfl) ?_
        refine AtX.join () ?_ (Sub.cons rfl (Sub.nil _)) ro_s
        trivial
       ·
        refine TO.dz 53247 (some 22) rfl rfl rfl rfl (Does.callF go80 rfl (refPut_fn _ _)) ?_
        rintro _ _ ⟨rfl, rfl⟩
        refine ⟨ro_s, ?_⟩
        refine TA.one 12 (by kernel_rfl) ?_
        refine TO.dz 57343 (some 19) rfl rfl rfl rfl (Val.does (Val.b2s (l := [2]) rfl us34 ui5 un9 rfl (.some (Rd.get (i := 0) rfl rfl)))) ?_
        rintro _ _ ⟨rfl, rfl⟩
        refine ⟨ro_s, ?_⟩
        refine TA.tk 13 65535 rfl rfl rfl (Val.addL (b := [2]) rfl rfl (by simp; omega)) ?_ (hro := ro_s)
        refine TA.tk 16 131071 rfl rfl rfl (Val.addL rfl rfl (by first | omega | (simp <;> omega))) ?_ (hro := ro_s)
        refine TA.one 17 (by kernel_rfl) ?_
        refine TO.dz 262143 (some 24) rfl rfl rfl rfl (Does.callF go78 rfl (refSip_fn k (lab ++ [2] ++ put8 n) _ (by simp; omega))) ?_
        rintro _ _ ⟨rfl, rfl⟩
        refine ⟨ro_s, ?_⟩
        refine TA.tk 18 524287 rfl rfl rfl (Val.buildA ar57 sz24 ze57 rfl rfl) ?_ (hro := ro_s)
        refine TA.one 19 (by kernel_rfl) ?_
        refine TO.dz 1048575 none rfl rfl rfl rfl (Does.store (i := 2) rfl rfl rfl sz57 rfl rfl (by first | exact Nat.le_of_ble_eq_true rfl | decide | omega) rfl rfl) ?_
        rintro _ _ ⟨rfl, rfl⟩
        refine ⟨ro_s, ?_⟩
        refine TA.done (by kernel_rfl) ?_
        refine AtX.join () ?_ (Sub.cons rfl (Sub.nil _)) ro_s
        trivial
      ·
       refine TO.dz 24319 (some 19) rfl rfl rfl rfl (Val.does (Val.b2s (l := [2]) rfl us34 ui5 un9 rfl (.some (Rd.get (i := 0) rfl rfl)))) ?_
       rintro _ _ ⟨rfl, rfl⟩
       refine ⟨ro_s, ?_⟩
       refine TA.tk 13 32511 rfl rfl rfl (Val.addL (b := [2]) rfl rfl (by simp; omega)) ?_ (hro := ro_s)
       refine TA.one 8 (by kernel_rfl) ?_
       refine TO.dz 32767 (some 15) rfl rfl rfl rfl (Does.callF go78 rfl (refSip_fn k (lab ++ [1] ++ put8 n) _ (by simp; omega))) ?_
       rintro _ _ ⟨rfl, rfl⟩
       refine ⟨ro_s, ?_⟩
       refine TA.one 15 (by kernel_rfl) ?_
       refine TO.dz 65535 (some 22) rfl rfl rfl rfl (Does.callF go80 rfl (refPut_fn _ _)) ?_
       rintro _ _ ⟨rfl, rfl⟩
       refine ⟨ro_s, ?_⟩
       refine TA.tk 16 131071 rfl rfl rfl (Val.addL rfl rfl (by first | omega | (simp <;> omega))) ?_ (hro := ro_s)
       refine TA.one 17 (by kernel_rfl) ?_
       refine TO.dz 262143 (some 24) rfl rfl rfl rfl (Does.callF go78 rfl (refSip_fn k (lab ++ [2] ++ put8 n) _ (by simp; omega))) ?_
       rintro _ _ ⟨rfl, rfl⟩
       refine ⟨ro_s, ?_⟩
       refine TA.tk 18 524287 rfl rfl rfl (Val.buildA ar57 sz24 ze57 rfl rfl) ?_ (hro := ro_s)
       refine TA.one 19 (by kernel_rfl) ?_
       refine TO.dz 1048575 none rfl rfl rfl rfl (Does.store (i := 2) rfl rfl rfl sz57 rfl rfl (by first | exact Nat.le_of_ble_eq_true rfl | decide | omega) rfl rfl) ?_
       rintro _ _ ⟨rfl, rfl⟩
       refine ⟨ro_s, ?_⟩
       refine TA.done (by kernel_rfl) ?_
       refine AtX.join () ?_ (Sub.cons rfl (Sub.nil _)) ro_s
       trivial
     ·
      refine TO.dz 24127 (some 19) rfl rfl rfl rfl (Val.does (Val.b2s (l := [2]) rfl us34 ui5 un9 rfl (.some (Rd.get (i := 0) rfl rfl)))) ?_
      rintro _ _ ⟨rfl, rfl⟩
      refine ⟨ro_s, ?_⟩
      refine TA.tk 13 32319 rfl rfl rfl (Val.addL (b := [2]) rfl rfl (by simp; omega)) ?_ (hro := ro_s)
      refine TA.one 6 (by kernel_rfl) ?_
      refine TO.dz 32383 (some 13) rfl rfl rfl rfl (Does.callF go80 rfl (refPut_fn _ _)) ?_
      rintro _ _ ⟨rfl, rfl⟩
      refine ⟨ro_s, ?_⟩
      refine TA.tk 7 32511 rfl rfl rfl (Val.addL rfl rfl (by first | omega | (simp <;> omega))) ?_ (hro := ro_s)
      refine TA.one 8 (by kernel_rfl) ?_
      refine TO.dz 32767 (some 15) rfl rfl rfl rfl (Does.callF go78 rfl (refSip_fn k (lab ++ [1] ++ put8 n) _ (by simp; omega))) ?_
      rintro _ _ ⟨rfl, rfl⟩
      refine ⟨ro_s, ?_⟩
      refine TA.one 15 (by kernel_rfl) ?_
      refine TO.dz 65535 (some 22) rfl rfl rfl rfl (Does.callF go80 rfl (refPut_fn _ _)) ?_
      rintro _ _ ⟨rfl, rfl⟩
      refine ⟨ro_s, ?_⟩
      refine TA.tk 16 131071 rfl rfl rfl (Val.addL rfl rfl (by first | omega | (simp <;> omega))) ?_ (hro := ro_s)
      refine TA.one 17 (by kernel_rfl) ?_
      refine TO.dz 262143 (some 24) rfl rfl rfl rfl (Does.callF go78 rfl (refSip_fn k (lab ++ [2] ++ put8 n) _ (by simp; omega))) ?_
      rintro _ _ ⟨rfl, rfl⟩
      refine ⟨ro_s, ?_⟩
      refine TA.tk 18 524287 rfl rfl rfl (Val.buildA ar57 sz24 ze57 rfl rfl) ?_ (hro := ro_s)
      refine TA.one 19 (by kernel_rfl) ?_
      refine TO.dz 1048575 none rfl rfl rfl rfl (Does.store (i := 2) rfl rfl rfl sz57 rfl rfl (by first | exact Nat.le_of_ble_eq_true rfl | decide | omega) rfl rfl) ?_
      rintro _ _ ⟨rfl, rfl⟩
      refine ⟨ro_s, ?_⟩
      refine TA.done (by kernel_rfl) ?_
      refine AtX.join () ?_ (Sub.cons rfl (Sub.nil _)) ro_s
      trivial
   ·
    refine TO.dz 18023 (some 13) rfl rfl rfl rfl (Does.callF go80 rfl (refPut_fn _ _)) ?_
    rintro _ _ ⟨rfl, rfl⟩
    refine ⟨ro_s, ?_⟩
    refine TA.two 3 11 (by kernel_rfl) ?_ ?_
    ·
     refine TO.dz 18031 (some 10) rfl rfl rfl rfl (Val.does (Val.b2s (l := [1]) rfl us34 ui5 un9 rfl (.some (Rd.get (i := 0) rfl rfl)))) ?_
     rintro _ _ ⟨rfl, rfl⟩
     refine ⟨ro_s, ?_⟩
     refine TA.tk 4 18047 rfl rfl rfl (Val.addL (b := [1]) rfl rfl (by simp; omega)) ?_ (hro := ro_s)
     refine TA.tk 7 18175 rfl rfl rfl (Val.addL rfl rfl (by first | omega | (simp <;> omega))) ?_ (hro := ro_s)
     refine TA.two 8 11 (by kernel_rfl) ?_ ?_
     ·
      refine TO.dz 18431 (some 15) rfl rfl rfl rfl (Does.callF go78 rfl (refSip_fn k (lab ++ [1] ++ put8 n) _ (by simp; omega))) ?_
      rintro _ _ ⟨rfl, rfl⟩
      refine ⟨ro_s, ?_⟩
      refine TA.two 11 15 (by kernel_rfl) ?_ ?_
      ·
       refine TO.dz 20479 (some 18) rfl rfl rfl rfl (Does.buildSlice sl34 sz5 ze5 (by decide) (by decide) rfl rfl rfl) ?_
       rintro _ _ ⟨b21, rfl, rfl⟩
       refine ⟨ro_s, ?_⟩
       refine TA.two 12 15 (by kernel_rfl) ?_ ?_
       ·
        refine TO.dz 24575 (some 19) rfl rfl rfl rfl (Val.does (Val.b2s (l := [2]) rfl us34 ui5 un9 rfl (.some (Rd.get (i := 0) rfl rfl)))) ?_
        rintro _ _ ⟨rfl, rfl⟩
        refine ⟨ro_s, ?_⟩
        refine TA.tk 13 32767 rfl rfl rfl (Val.addL (b := [2]) rfl rfl (by simp; omega)) ?_ (hro := ro_s)
        refine TA.one 15 (by kernel_rfl) ?_
        refine TO.dz 65535 (some 22) rfl rfl rfl rfl (Does.callF go80 rfl (refPut_fn _ _)) ?_
        rintro _ _ ⟨rfl, rfl⟩
        refine ⟨ro_s, ?_⟩
        refine TA.tk 16 131071 rfl rfl rfl (Val.addL rfl rfl (by first | omega | (simp <;> omega))) ?_ (hro := ro_s)
        refine TA.one 17 (by kernel_rfl) ?_
        refine TO.dz 262143 (some 24) rfl rfl rfl rfl (Does.callF go78 rfl (refSip_fn k (lab ++ [2] ++ put8 n) _ (by simp; omega))) ?_
        rintro _ _ ⟨rfl, rfl⟩
        refine ⟨ro_s, ?_⟩
        refine TA.tk 18 524287 rfl rfl rfl (Val.buildA ar57 sz24 ze57 rfl rfl) ?_ (hro := ro_s)
        refine TA.one 19 (by kernel_rfl) ?_
        refine TO.dz 1048575 none rfl rfl rfl rfl (Does.store (i := 2) rfl rfl rfl sz57 rfl rfl (by first | exact Nat.le_of_ble_eq_true rfl | decide | omega) rfl rfl) ?_
        rintro _ _ ⟨rfl, rfl⟩
        refine ⟨ro_s, ?_⟩
        refine TA.done (by kernel_rfl) ?_
        refine AtX.join () ?_ (Sub.cons rfl (Sub.nil _)) ro_s
        trivial
       ·
        refine TO.dz 53247 (some 22) rfl rfl rfl rfl (Does.callF go80 rfl (refPut_fn _ _)) ?_
        rintro _ _ ⟨rfl, rfl⟩
        refine ⟨ro_s, ?_⟩
        refine TA.one 12 (by kernel_rfl) ?_
        refine TO.dz 57343 (some 19) rfl rfl rfl rfl (Val.does (Val.b2s (l := [2]) rfl us34 ui5 un9 rfl (.some (Rd.get (i := 0) rfl rfl)))) ?_
        rintro _ _ ⟨rfl, rfl⟩
        refine ⟨ro_s, ?_⟩
        refine TA.tk 13 65535 rfl rfl rfl (Val.addL (b := [2]) rfl rfl (by simp; omega)) ?_ (hro := ro_s)
        refine TA.tk 16 131071 rfl rfl rfl (Val.addL rfl rfl (by first | omega | (simp <;> omega))) ?_ (hro := ro_s)
        refine TA.one 17 (by kernel_rfl) ?_
        refine TO.dz 262143 (some 24) rfl rfl rfl rfl (Does.callF go78 rfl (refSip_fn k (lab ++ [2] ++ put8 n) _ (by simp; omega))) ?_
        rintro _ _ ⟨rfl, rfl⟩
        refine ⟨ro_s, ?_⟩
        refine TA.tk 18 524287 rfl rfl rfl (Val.buildA ar57 sz24 ze57 rfl rfl) ?_ (hro := ro_s)
        refine TA.one 19 (by kernel_rfl) ?_
        refine TO.dz 1048575 none rfl rfl rfl rfl (Does.store (i := 2) rfl rfl rfl sz57 rfl rfl (by first | exact Nat.le_of_ble_eq_true rfl | decide | omega) rfl rfl) ?_
        rintro _ _ ⟨rfl, rfl⟩
        refine ⟨ro_s, ?_⟩
        refine TA.done (by kernel_rfl) ?_
        refine AtX.join () ?_ (Sub.cons rfl (Sub.nil _)) ro_s
        trivial
      ·
       refine TO.dz 51199 (some 22) rfl rfl rfl rfl (Does.callF go80 rfl (refPut_fn _ _)) ?_
       rintro _ _ ⟨rfl, rfl⟩
       refine ⟨ro_s, ?_⟩
       refine TA.one 11 (by kernel_rfl) ?_
       refine TO.dz 53247 (some 18) rfl rfl rfl rfl (Does.buildSlice sl34 sz5 ze5 (by decide) (by decide) rfl rfl rfl) ?_
       rintro _ _ ⟨b25, rfl, rfl⟩
       refine ⟨ro_s, ?_⟩
       refine TA.one 12 (by kernel_rfl) ?_
       refine TO.dz 57343 (some 19) rfl rfl rfl rfl (Val.does (Val.b2s (l := [2]) rfl us34 ui5 un9 rfl (.some (Rd.get (i := 0) rfl rfl)))) ?_
       rintro _ _ ⟨rfl, rfl⟩
       refine ⟨ro_s, ?_⟩
       refine TA.tk 13 65535 rfl rfl rfl (Val.addL (b := [2]) rfl rfl (by simp; omega)) ?_ (hro := ro_s)
       refine TA.tk 16 131071 rfl rfl rfl (Val.addL rfl rfl (by first | omega | (simp <;> omega))) ?_ (hro := ro_s)
       refine TA.one 17 (by kernel_rfl) ?_
       refine TO.dz 262143 (some 24) rfl rfl rfl rfl (Does.callF go78 rfl (refSip_fn k (lab ++ [2] ++ put8 n) _ (by simp; omega))) ?_
       rintro _ _ ⟨rfl, rfl⟩
       refine ⟨ro_s, ?_⟩
       refine TA.tk 18 524287 rfl rfl rfl (Val.buildA ar57 sz24 ze57 rfl rfl) ?_ (hro := ro_s)
       refine TA.one 19 (by kernel_rfl) ?_
       refine TO.dz 1048575 none rfl rfl rfl rfl (Does.store (i := 2) rfl rfl rfl sz57 rfl rfl (by first | exact Nat.le_of_ble_eq_true rfl | decide | omega) rfl rfl) ?_
       rintro _ _ ⟨rfl, rfl⟩
       refine ⟨ro_s, ?_⟩
       refine TA.done (by kernel_rfl) ?_
       refine AtX.join () ?_ (Sub.cons rfl (Sub.nil _)) ro_s
       trivial
     ·
      refine TO.dz 20223 (some 18) rfl rfl rfl rfl (Does.buildSlice sl34 sz5 ze5 (by decide) (by decide) rfl rfl rfl) ?_
      rintro _ _ ⟨b26, rfl, rfl⟩
      refine ⟨ro_s, ?_⟩
      refine TA.two 8 12 (by kernel_rfl) ?_ ?_
      ·
       refine TO.dz 20479 (some 15) rfl rfl rfl rfl (Does.callF go78 rfl (refSip_fn k (lab ++ [1] ++ put8 n) _ (by simp; omega))) ?_
       rintro _ _ ⟨rfl, rfl⟩
       refine ⟨ro_s, ?_⟩
       refine TA.two 12 15 (by kernel_rfl) ?_ ?_
       ·
        refine TO.dz 24575 (some 19) rfl rfl rfl rfl (Val.does (Val.b2s (l := [2]) rfl us34 ui5 un9 rfl (.some (Rd.get (i := 0) rfl rfl)))) ?_
        rintro _ _ ⟨rfl, rfl⟩
        refine ⟨ro_s, ?_⟩
        refine TA.tk 13 32767 rfl rfl rfl (Val.addL (b := [2]) rfl rfl (by simp; omega)) ?_ (hro := ro_s)
        refine TA.one 15 (by kernel_rfl) ?_
        refine TO.dz 65535 (some 22) rfl rfl rfl rfl (Does.callF go80 rfl (refPut_fn _ _)) ?_
        rintro _ _ ⟨rfl, rfl⟩
        refine ⟨ro_s, ?_⟩
        refine TA.tk 16 131071 rfl rfl rfl (Val.addL rfl rfl (by first | omega | (simp <;> omega))) ?_ (hro := ro_s)
        refine TA.one 17 (by kernel_rfl) ?_
        refine TO.dz 262143 (some 24) rfl rfl rfl rfl (Does.callF go78 rfl (refSip_fn k (lab ++ [2] ++ put8 n) _ (by simp; omega))) ?_
        rintro _ _ ⟨rfl, rfl⟩
        refine ⟨ro_s, ?_⟩
        refine TA.tk 18 524287 rfl rfl rfl (Val.buildA ar57 sz24 ze57 rfl rfl) ?_ (hro := ro_s)
        refine TA.one 19 (by kernel_rfl) ?_
        refine TO.dz 1048575 none rfl rfl rfl rfl (Does.store (i := 2) rfl rfl rfl sz57 rfl rfl (by first | exact Nat.le_of_ble_eq_true rfl | decide | omega) rfl rfl) ?_
        rintro _ _ ⟨rfl, rfl⟩
        refine ⟨ro_s, ?_⟩
        refine TA.done (by kernel_rfl) ?_
        refine AtX.join () ?_ (Sub.cons rfl (Sub.nil _)) ro_s
        trivial
       ·
        refine TO.dz 53247 (some 22) rfl rfl rfl rfl (Does.callF go80 rfl (refPut_fn _ _)) ?_
        rintro _ _ ⟨rfl, rfl⟩
        refine ⟨ro_s, ?_⟩
        refine TA.one 12 (by kernel_rfl) ?_
        refine TO.dz 57343 (some 19) rfl rfl rfl rfl (Val.does (Val.b2s (l := [2]) rfl us34 ui5 un9 rfl (.some (Rd.get (i := 0) rfl rfl)))) ?_
        rintro _ _ ⟨rfl, rfl⟩
        refine ⟨ro_s, ?_⟩
        refine TA.tk 13 65535 rfl rfl rfl (Val.addL (b := [2]) rfl rfl (by simp; omega)) ?_ (hro := ro_s)
        refine TA.tk 16 131071 rfl rfl rfl (Val.addL rfl rfl (by first | omega | (simp <;> omega))) ?_ (hro := ro_s)
        refine TA.one 17 (by kernel_rfl) ?_
        refine TO.dz 262143 (some 24) rfl rfl rfl rfl (Does.callF go78 rfl (refSip_fn k (lab ++ [2] ++ put8 n) _ (by simp; omega))) ?_
        rintro _ _ ⟨rfl, rfl⟩
        refine ⟨ro_s, ?_⟩
        refine TA.tk 18 524287 rfl rfl rfl (Val.buildA ar57 sz24 ze57 rfl rfl) ?_ (hro := ro_s)
        refine TA.one 19 (by kernel_rfl) ?_
        refine TO.dz 1048575 none rfl rfl rfl rfl (Does.store (i := 2) rfl rfl rfl sz57 rfl rfl (by first | exact Nat.le_of_ble_eq_true rfl | decide | omega) rfl rfl) ?_
        rintro _ _ ⟨rfl, rfl⟩
        refine ⟨ro_s, ?_⟩
        refine TA.done (by kernel_rfl) ?_
        refine AtX.join () ?_ (Sub.cons rfl (Sub.nil _)) ro_s
        trivial
      ·
       refine TO.dz 24319 (some 19) rfl rfl rfl rfl (Val.does (Val.b2s (l := [2]) rfl us34 ui5 un9 rfl (.some (Rd.get (i := 0) rfl rfl)))) ?_
       rintro _ _ ⟨rfl, rfl⟩
       refine ⟨ro_s, ?_⟩
       refine TA.tk 13 32511 rfl rfl rfl (Val.addL (b := [2]) rfl rfl (by simp; omega)) ?_ (hro := ro_s)
       refine TA.one 8 (by kernel_rfl) ?_
       refine TO.dz 32767 (some 15) rfl rfl rfl rfl (Does.callF go78 rfl (refSip_fn k (lab ++ [1] ++ put8 n) _ (by simp; omega))) ?_
       rintro _ _ ⟨rfl, rfl⟩
       refine ⟨ro_s, ?_⟩
       refine TA.one 15 (by kernel_rfl) ?_
       refine TO.dz 65535 (some 22) rfl rfl rfl rfl (Does.callF go80 rfl (refPut_fn _ _)) ?_
       rintro _ _ ⟨rfl, rfl⟩
       refine ⟨ro_s, ?_⟩
       refine TA.tk 16 131071 rfl rfl rfl (Val.addL rfl rfl (by first | omega | (simp <;> omega))) ?_ (hro := ro_s)
       refine TA.one 17 (by kernel_rfl) ?_
       refine TO.dz 262143 (some 24) rfl rfl rfl rfl (Does.callF go78 rfl (refSip_fn k (lab ++ [2] ++ put8 n) _ (by simp; omega))) ?_
       rintro _ _ ⟨rfl, rfl⟩
       refine ⟨ro_s, ?_⟩
       refine TA.tk 18 524287 rfl rfl rfl (Val.buildA ar57 sz24 ze57 rfl rfl) ?_ (hro := ro_s)
       refine TA.one 19 (by kernel_rfl) ?_
       refine TO.dz 1048575 none rfl rfl rfl rfl (Does.store (i := 2) rfl rfl rfl sz57 rfl rfl (by first | exact Nat.le_of_ble_eq_true rfl | decide | omega) rfl rfl) ?_
       rintro _ _ ⟨rfl, rfl⟩
       refine ⟨ro_s, ?_⟩
       refine TA.done (by kernel_rfl) ?_
       refine AtX.join () ?_ (Sub.cons rfl (Sub.nil _)) ro_s
       trivial
    ·
     refine TO.dz 20071 (some 18) rfl rfl rfl rfl (Does.buildSlice sl34 sz5 ze5 (by decide) (by decide) rfl rfl rfl) ?_
     rintro _ _ ⟨b30, rfl, rfl⟩
     refine ⟨ro_s, ?_⟩
     refine TA.two 3 12 (by kernel_rfl) ?_ ?_
     ·
      refine TO.dz 20079 (some 10) rfl rfl rfl rfl (Val.does (Val.b2s (l := [1]) rfl us34 ui5 un9 rfl (.some (Rd.get (i := 1) rfl rfl)))) ?_
      rintro _ _ ⟨rfl, rfl⟩
      refine ⟨ro_s, ?_⟩
      refine TA.tk 4 20095 rfl rfl rfl (Val.addL (b := [1]) rfl rfl (by simp; omega)) ?_ (hro := ro_s)
      refine TA.tk 7 20223 rfl rfl rfl (Val.addL rfl rfl (by first | omega | (simp <;> omega))) ?_ (hro := ro_s)
      refine TA.two 8 12 (by kernel_rfl) ?_ ?_
      ·
       refine TO.dz 20479 (some 15) rfl rfl rfl rfl (Does.callF go78 rfl (refSip_fn k (lab ++ [1] ++ put8 n) _ (by simp; omega))) ?_
       rintro _ _ ⟨rfl, rfl⟩
       refine ⟨ro_s, ?_⟩
       refine TA.two 12 15 (by kernel_rfl) ?_ ?_
       ·
        refine TO.dz 24575 (some 19) rfl rfl rfl rfl (Val.does (Val.b2s (l := [2]) rfl us34 ui5 un9 rfl (.some (Rd.get (i := 0) rfl rfl)))) ?_
        rintro _ _ ⟨rfl, rfl⟩
        refine ⟨ro_s, ?_⟩
        refine TA.tk 13 32767 rfl rfl rfl (Val.addL (b := [2]) rfl rfl (by simp; omega)) ?_ (hro := ro_s)
        refine TA.one 15 (by kernel_rfl) ?_
        refine TO.dz 65535 (some 22) rfl rfl rfl rfl (Does.callF go80 rfl (refPut_fn _ _)) ?_
        rintro _ _ ⟨rfl, rfl⟩
        refine ⟨ro_s, ?_⟩
        refine TA.tk 16 131071 rfl rfl rfl (Val.addL rfl rfl (by first | omega | (simp <;> omega))) ?_ (hro := ro_s)
        refine TA.one 17 (by kernel_rfl) ?_
        refine TO.dz 262143 (some 24) rfl rfl rfl rfl (Does.callF go78 rfl (refSip_fn k (lab ++ [2] ++ put8 n) _ (by simp; omega))) ?_
        rintro _ _ ⟨rfl, rfl⟩
        refine ⟨ro_s, ?_⟩
        refine TA.tk 18 524287 rfl rfl rfl (Val.buildA ar57 sz24 ze57 rfl rfl) ?_ (hro := ro_s)
        refine TA.one 19 (by kernel_rfl) ?_
        refine TO.dz 1048575 none rfl rfl rfl rfl (Does.store (i := 2) rfl rfl rfl sz57 rfl rfl (by first | exact Nat.le_of_ble_eq_true rfl | decide | omega) rfl rfl) ?_
        rintro _ _ ⟨rfl, rfl⟩
        refine ⟨ro_s, ?_⟩
        refine TA.done (by kernel_rfl) ?_
        refine AtX.join () ?_ (Sub.cons rfl (Sub.nil _)) ro_s
        trivial
       ·
        refine TO.dz 53247 (some 22) rfl rfl rfl rfl (Does.callF go80 rfl (refPut_fn _ _)) ?_
        rintro _ _ ⟨rfl, rfl⟩
        refine ⟨ro_s, ?_⟩
        refine TA.one 12 (by kernel_rfl) ?_
        refine TO.dz 57343 (some 19) rfl rfl rfl rfl (Val.does (Val.b2s (l := [2]) rfl us34 ui5 un9 rfl (.some (Rd.get (i := 0) rfl rfl)))) ?_
        rintro _ _ ⟨rfl, rfl⟩
        refine ⟨ro_s, ?_⟩
        refine TA.tk 13 65535 rfl rfl rfl (Val.addL (b := [2]) rfl rfl (by simp; omega)) ?_ (hro := ro_s)
        refine TA.tk 16 131071 rfl rfl rfl (Val.addL rfl rfl (by first | omega | (simp <;> omega))) ?_ (hro := ro_s)
        refine TA.one 17 (by kernel_rfl) ?_
        refine TO.dz 262143 (some 24) rfl rfl rfl rfl (Does.callF go78 rfl (refSip_fn k (lab ++ [2] ++ put8 n) _ (by simp; omega))) ?_
        rintro _ _ ⟨rfl, rfl⟩
        refine ⟨ro_s, ?_⟩
        refine TA.tk 18 524287 rfl rfl rfl (Val.buildA ar57 sz24 ze57 rfl rfl) ?_ (hro := ro_s)
        refine TA.one 19 (by kernel_rfl) ?_
        refine TO.dz 1048575 none rfl rfl rfl rfl (Does.store (i := 2) rfl rfl rfl sz57 rfl rfl (by first | exact Nat.le_of_ble_eq_true rfl | decide | omega) rfl rfl) ?_
        rintro _ _ ⟨rfl, rfl⟩
        refine ⟨ro_s, ?_⟩
        refine TA.done (by kernel_rfl) ?_
        refine AtX.join () ?_ (Sub.cons rfl (Sub.nil _)) ro_s
        trivial
      ·
       refine TO.dz 24319 (some 19) rfl rfl rfl rfl (Val.does (Val.b2s (l := [2]) rfl us34 ui5 un9 rfl (.some (Rd.get (i := 0) rfl rfl)))) ?_
       rintro _ _ ⟨rfl, rfl⟩
       refine ⟨ro_s, ?_⟩
       refine TA.tk 13 32511 rfl rfl rfl (Val.addL (b := [2]) rfl rfl (by simp; omega)) ?_ (hro := ro_s)
       refine TA.one 8 (by kernel_rfl) ?_
       refine TO.dz 32767 (some 15) rfl rfl rfl rfl (Does.callF go78 rfl (refSip_fn k (lab ++ [1] ++ put8 n) _ (by simp; omega))) ?_
       rintro _ _ ⟨rfl, rfl⟩
       refine ⟨ro_s, ?_⟩
       refine TA.one 15 (by kernel_rfl) ?_
       refine TO.dz 65535 (some 22) rfl rfl rfl rfl (Does.callF go80 rfl (refPut_fn _ _)) ?_
       rintro _ _ ⟨rfl, rfl⟩
       refine ⟨ro_s, ?_⟩
       refine TA.tk 16 131071 rfl rfl rfl (Val.addL rfl rfl (by first | omega | (simp <;> omega))) ?_ (hro := ro_s)
       refine TA.one 17 (by kernel_rfl) ?_
       refine TO.dz 262143 (some 24) rfl rfl rfl rfl (Does.callF go78 rfl (refSip_fn k (lab ++ [2] ++ put8 n) _ (by simp; omega))) ?_
       rintro _ _ ⟨rfl, rfl⟩
       refine ⟨ro_s, ?_⟩
       refine TA.tk 18 524287 rfl rfl rfl (Val.buildA ar57 sz24 ze57 rfl rfl) ?_ (hro := ro_s)
       refine TA.one 19 (by kernel_rfl) ?_
       refine TO.dz 1048575 none rfl rfl rfl rfl (Does.store (i := 2) rfl rfl rfl sz57 rfl rfl (by first | exact Nat.le_of_ble_eq_true rfl | decide | omega) rfl rfl) ?_
       rintro _ _ ⟨rfl, rfl⟩
       refine ⟨ro_s, ?_⟩
       refine TA.done (by kernel_rfl) ?_
       refine AtX.join () ?_ (Sub.cons rfl (Sub.nil _)) ro_s
       trivial
     ·
      refine TO.dz 24167 (some 19) rfl rfl rfl rfl (Val.does (Val.b2s (l := [2]) rfl us34 ui5 un9 rfl (.some (Rd.get (i := 0) rfl rfl)))) ?_
      rintro _ _ ⟨rfl, rfl⟩
      refine ⟨ro_s, ?_⟩
      refine TA.tk 13 32359 rfl rfl rfl (Val.addL (b := [2]) rfl rfl (by simp; omega)) ?_ (hro := ro_s)
      refine TA.one 3 (by kernel_rfl) ?_
      refine TO.dz 32367 (some 10) rfl rfl rfl rfl (Val.does (Val.b2s (l := [1]) rfl us34 ui5 un9 rfl (.some (Rd.get (i := 1) rfl rfl)))) ?_
      rintro _ _ ⟨rfl, rfl⟩
      refine ⟨ro_s, ?_⟩
      refine TA.tk 4 32383 rfl rfl rfl (Val.addL (b := [1]) rfl rfl (by simp; omega)) ?_ (hro := ro_s)
      refine TA.tk 7 32511 rfl rfl rfl (Val.addL rfl rfl (by first | omega | (simp <;> omega))) ?_ (hro := ro_s)
      refine TA.one 8 (by kernel_rfl) ?_
      refine TO.dz 32767 (some 15) rfl rfl rfl rfl (Does.callF go78 rfl (refSip_fn k (lab ++ [1] ++ put8 n) _ (by simp; omega))) ?_
      rintro _ _ ⟨rfl, rfl⟩
      refine ⟨ro_s, ?_⟩
      refine TA.one 15 (by kernel_rfl) ?_
      refine TO.dz 65535 (some 22) rfl rfl rfl rfl (Does.callF go80 rfl (refPut_fn _ _)) ?_
      rintro _ _ ⟨rfl, rfl⟩
      refine ⟨ro_s, ?_⟩
      refine TA.tk 16 131071 rfl rfl rfl (Val.addL rfl rfl (by first | omega | (simp <;> omega))) ?_ (hro := ro_s)
      refine TA.one 17 (by kernel_rfl) ?_
      refine TO.dz 262143 (some 24) rfl rfl rfl rfl (Does.callF go78 rfl (refSip_fn k (lab ++ [2] ++ put8 n) _ (by simp; omega))) ?_
      rintro _ _ ⟨rfl, rfl⟩
      refine ⟨ro_s, ?_⟩
      refine TA.tk 18 524287 rfl rfl rfl (Val.buildA ar57 sz24 ze57 rfl rfl) ?_ (hro := ro_s)
      refine TA.one 19 (by kernel_rfl) ?_
      refine TO.dz 1048575 none rfl rfl rfl rfl (Does.store (i := 2) rfl rfl rfl sz57 rfl rfl (by first | exact Nat.le_of_ble_eq_true rfl | decide | omega) rfl rfl) ?_
      rintro _ _ ⟨rfl, rfl⟩
      refine ⟨ro_s, ?_⟩
      refine TA.done (by kernel_rfl) ?_
      refine AtX.join () ?_ (Sub.cons rfl (Sub.nil _)) ro_s
      trivial
   ·
    refine TO.dz 20007 (some 18) rfl rfl rfl rfl (Does.buildSlice sl34 sz5 ze5 (by decide) (by decide) rfl rfl rfl) ?_
    rintro _ _ ⟨b35, rfl, rfl⟩
    refine ⟨ro_s, ?_⟩
    refine TA.three 3 6 12 (by kernel_rfl) ?_ ?_ ?_
    ·
     refine TO.dz 20015 (some 10) rfl rfl rfl rfl (Val.does (Val.b2s (l := [1]) rfl us34 ui5 un9 rfl (.some (Rd.get (i := 1) rfl rfl)))) ?_
     rintro _ _ ⟨rfl, rfl⟩
     refine ⟨ro_s, ?_⟩
     refine TA.tk 4 20031 rfl rfl rfl (Val.addL (b := [1]) rfl rfl (by simp; omega)) ?_ (hro := ro_s)
     refine TA.two 6 12 (by kernel_rfl) ?_ ?_
     ·
      refine TO.dz 20095 (some 13) rfl rfl rfl rfl (Does.callF go80 rfl (refPut_fn _ _)) ?_
      rintro _ _ ⟨rfl, rfl⟩
      refine ⟨ro_s, ?_⟩
      refine TA.tk 7 20223 rfl rfl rfl (Val.addL rfl rfl (by first | omega | (simp <;> omega))) ?_ (hro := ro_s)
      refine TA.two 8 12 (by kernel_rfl) ?_ ?_
      ·
       refine TO.dz 20479 (some 15) rfl rfl rfl rfl (Does.callF go78 rfl (refSip_fn k (lab ++ [1] ++ put8 n) _ (by simp; omega))) ?_
       rintro _ _ ⟨rfl, rfl⟩
       refine ⟨ro_s, ?_⟩
       refine TA.two 12 15 (by kernel_rfl) ?_ ?_
       ·
        refine TO.dz 24575 (some 19) rfl rfl rfl rfl (Val.does (Val.b2s (l := [2]) rfl us34 ui5 un9 rfl (.some (Rd.get (i := 0) rfl rfl)))) ?_
        rintro _ _ ⟨rfl, rfl⟩
        refine ⟨ro_s, ?_⟩
        refine TA.tk 13 32767 rfl rfl rfl (Val.addL (b := [2]) rfl rfl (by simp; omega)) ?_ (hro := ro_s)
        refine TA.one 15 (by kernel_rfl) ?_
        refine TO.dz 65535 (some 22) rfl rfl rfl rfl (Does.callF go80 rfl (refPut_fn _ _)) ?_
        rintro _ _ ⟨rfl, rfl⟩
        refine ⟨ro_s, ?_⟩
        refine TA.tk 16 131071 rfl rfl rfl (Val.addL rfl rfl (by first | omega | (simp <;> omega))) ?_ (hro := ro_s)
        refine TA.one 17 (by kernel_rfl) ?_
        refine TO.dz 262143 (some 24) rfl rfl rfl rfl (Does.callF go78 rfl (refSip_fn k (lab ++ [2] ++ put8 n) _ (by simp; omega))) ?_
        rintro _ _ ⟨rfl, rfl⟩
        refine ⟨ro_s, ?_⟩
        refine TA.tk 18 524287 rfl rfl rfl (Val.buildA ar57 sz24 ze57 rfl rfl) ?_ (hro := ro_s)
        refine TA.one 19 (by kernel_rfl) ?_
        refine TO.dz 1048575 none rfl rfl rfl rfl (Does.store (i := 2) rfl rfl rfl sz57 rfl rfl (by first | exact Nat.le_of_ble_eq_true rfl | decide | omega) rfl rfl) ?_
        rintro _ _ ⟨rfl, rfl⟩
        refine ⟨ro_s, ?_⟩
        refine TA.done (by kernel_rfl) ?_
        refine AtX.join () ?_ (Sub.cons rfl (Sub.nil _)) ro_s
        trivial
       ·
        refine TO.dz 53247 (some 22) rfl rfl rfl rfl (Does.callF go80 rfl (refPut_fn _ _)) ?_
        rintro _ _ ⟨rfl, rfl⟩
        refine ⟨ro_s, ?_⟩
        refine TA.one 12 (by kernel_rfl) ?_
        refine TO.dz 57343 (some 19) rfl rfl rfl rfl (Val.does (Val.b2s (l := [2]) rfl us34 ui5 un9 rfl (.some (Rd.get (i := 0) rfl rfl)))) ?_
        rintro _ _ ⟨rfl, rfl⟩
        refine ⟨ro_s, ?_⟩
        refine TA.tk 13 65535 rfl rfl rfl (Val.addL (b := [2]) rfl rfl (by simp; omega)) ?_ (hro := ro_s)
        refine TA.tk 16 131071 rfl rfl rfl (Val.addL rfl rfl (by first | omega | (simp <;> omega))) ?_ (hro := ro_s)
        refine TA.one 17 (by kernel_rfl) ?_
        refine TO.dz 262143 (some 24) rfl rfl rfl rfl (Does.callF go78 rfl (refSip_fn k (lab ++ [2] ++ put8 n) _ (by simp; omega))) ?_
        rintro _ _ ⟨rfl, rfl⟩
        refine ⟨ro_s, ?_⟩
        refine TA.tk 18 524287 rfl rfl rfl (Val.buildA ar57 sz24 ze57 rfl rfl) ?_ (hro := ro_s)
        refine TA.one 19 (by kernel_rfl) ?_
        refine TO.dz 1048575 none rfl rfl rfl rfl (Does.store (i := 2) rfl rfl rfl sz57 rfl rfl (by first | exact Nat.le_of_ble_eq_true rfl | decide | omega) rfl rfl) ?_
        rintro _ _ ⟨rfl, rfl⟩
        refine ⟨ro_s, ?_⟩
        refine TA.done (by kernel_rfl) ?_
        refine AtX.join () ?_ (Sub.cons rfl (Sub.nil _)) ro_s
        trivial
      ·
       refine TO.dz 24319 (some 19) rfl rfl rfl rfl (Val.does (Val.b2s (l := [2]) rfl us34 ui5 un9 rfl (.some (Rd.get (i := 0) rfl rfl)))) ?_
       rintro _ _ ⟨rfl, rfl⟩
       refine ⟨ro_s, ?_⟩
       refine TA.tk 13 32511 rfl rfl rfl (Val.addL (b := [2]) rfl rfl (by simp; omega)) ?_ (hro := ro_s)
       refine TA.one 8 (by kernel_rfl) ?_
       refine TO.dz 32767 (some 15) rfl rfl rfl rfl (Does.callF go78 rfl (refSip_fn k (lab ++ [1] ++ put8 n) _ (by simp; omega))) ?_
       rintro _ _ ⟨rfl, rfl⟩
       refine ⟨ro_s, ?_⟩
       refine TA.one 15 (by kernel_rfl) ?_
       refine TO.dz 65535 (some 22) rfl rfl rfl rfl (Does.callF go80 rfl (refPut_fn _ _)) ?_
       rintro _ _ ⟨rfl, rfl⟩
       refine ⟨ro_s, ?_⟩
       refine TA.tk 16 131071 rfl rfl rfl (Val.addL rfl rfl (by first | omega | (simp <;> omega))) ?_ (hro := ro_s)
       refine TA.one 17 (by kernel_rfl) ?_
       refine TO.dz 262143 (some 24) rfl rfl rfl rfl (Does.callF go78 rfl (refSip_fn k (lab ++ [2] ++ put8 n) _ (by simp; omega))) ?_
       rintro _ _ ⟨rfl, rfl⟩
       refine ⟨ro_s, ?_⟩
       refine TA.tk 18 524287 rfl rfl rfl (Val.buildA ar57 sz24 ze57 rfl rfl) ?_ (hro := ro_s)
       refine TA.one 19 (by kernel_rfl) ?_
       refine TO.dz 1048575 none rfl rfl rfl rfl (Does.store (i := 2) rfl rfl rfl sz57 rfl rfl (by first | exact Nat.le_of_ble_eq_true rfl | decide | omega) rfl rfl) ?_
       rintro _ _ ⟨rfl, rfl⟩
       refine ⟨ro_s, ?_⟩
       refine TA.done (by kernel_rfl) ?_
       refine AtX.join () ?_ (Sub.cons rfl (Sub.nil _)) ro_s
       trivial
     ·
      refine TO.dz 24127 (some 19) rfl rfl rfl rfl (Val.does (Val.b2s (l := [2]) rfl us34 ui5 un9 rfl (.some (Rd.get (i := 0) rfl rfl)))) ?_
      rintro _ _ ⟨rfl, rfl⟩
      refine ⟨ro_s, ?_⟩
      refine TA.tk 13 32319 rfl rfl rfl (Val.addL (b := [2]) rfl rfl (by simp; omega)) ?_ (hro := ro_s)
      refine TA.one 6 (by kernel_rfl) ?_
      refine TO.dz 32383 (some 13) rfl rfl rfl rfl (Does.callF go80 rfl (refPut_fn _ _)) ?_
      rintro _ _ ⟨rfl, rfl⟩
      refine ⟨ro_s, ?_⟩
      refine TA.tk 7 32511 rfl rfl rfl (Val.addL rfl rfl (by first | omega | (simp <;> omega))) ?_ (hro := ro_s)
      refine TA.one 8 (by kernel_rfl) ?_
      refine TO.dz 32767 (some 15) rfl rfl rfl rfl (Does.callF go78 rfl (refSip_fn k (lab ++ [1] ++ put8 n) _ (by simp; omega))) ?_
      rintro _ _ ⟨rfl, rfl⟩
      refine ⟨ro_s, ?_⟩
      refine TA.one 15 (by kernel_rfl) ?_
      refine TO.dz 65535 (some 22) rfl rfl rfl rfl (Does.callF go80 rfl (refPut_fn _ _)) ?_
      rintro _ _ ⟨rfl, rfl⟩
      refine ⟨ro_s, ?_⟩
      refine TA.tk 16 131071 rfl rfl rfl (Val.addL rfl rfl (by first | omega | (simp <;> omega))) ?_ (hro := ro_s)
      refine TA.one 17 (by kernel_rfl) ?_
      refine TO.dz 262143 (some 24) rfl rfl rfl rfl (Does.callF go78 rfl (refSip_fn k (lab ++ [2] ++ put8 n) _ (by simp; omega))) ?_
      rintro _ _ ⟨rfl, rfl⟩
      refine ⟨ro_s, ?_⟩
      refine TA.tk 18 524287 rfl rfl rfl (Val.buildA ar57 sz24 ze57 rfl rfl) ?_ (hro := ro_s)
      refine TA.one 19 (by kernel_rfl) ?_
      refine TO.dz 1048575 none rfl rfl rfl rfl (Does.store (i := 2) rfl rfl rfl sz57 rfl rfl (by first | exact Nat.le_of_ble_eq_true rfl | decide | omega) rfl rfl) ?_
      rintro _ _ ⟨rfl, rfl⟩
      refine ⟨ro_s, ?_⟩
      refine TA.done (by kernel_rfl) ?_
      refine AtX.join () ?_ (Sub.cons rfl (Sub.nil _)) ro_s
      trivial
    ·
     refine TO.dz 20071 (some 13) rfl rfl rfl rfl (Does.callF go80 rfl (refPut_fn _ _)) ?_
     rintro _ _ ⟨rfl, rfl⟩
     refine ⟨ro_s, ?_⟩
     refine TA.two 3 12 (by kernel_rfl) ?_ ?_
     ·
      refine TO.dz 20079 (some 10) rfl rfl rfl rfl (Val.does (Val.b2s (l := [1]) rfl us34 ui5 un9 rfl (.some (Rd.get (i := 1) rfl rfl)))) ?_
      rintro _ _ ⟨rfl, rfl⟩
      refine ⟨ro_s, ?_⟩
      refine TA.tk 4 20095 rfl rfl rfl (Val.addL (b := [1]) rfl rfl (by simp; omega)) ?_ (hro := ro_s)
      refine TA.tk 7 20223 rfl rfl rfl (Val.addL rfl rfl (by first | omega | (simp <;> omega))) ?_ (hro := ro_s)
      refine TA.two 8 12 (by kernel_rfl) ?_ ?_
      ·
       refine TO.dz 20479 (some 15) rfl rfl rfl rfl (Does.callF go78 rfl (refSip_fn k (lab ++ [1] ++ put8 n) _ (by simp; omega))) ?_
       rintro _ _ ⟨rfl, rfl⟩
       refine ⟨ro_s, ?_⟩
       refine TA.two 12 15 (by kernel_rfl) ?_ ?_
       ·
        refine TO.dz 24575 (some 19) rfl rfl rfl rfl (Val.does (Val.b2s (l := [2]) rfl us34 ui5 un9 rfl (.some (Rd.get (i := 0) rfl rfl)))) ?_
        rintro _ _ ⟨rfl, rfl⟩
        refine ⟨ro_s, ?_⟩
        refine TA.tk 13 32767 rfl rfl rfl (Val.addL (b := [2]) rfl rfl (by simp; omega)) ?_ (hro := ro_s)
        refine TA.one 15 (by kernel_rfl) ?_
        refine TO.dz 65535 (some 22) rfl rfl rfl rfl (Does.callF go80 rfl (refPut_fn _ _)) ?_
        rintro _ _ ⟨rfl, rfl⟩
        refine ⟨ro_s, ?_⟩
        refine TA.tk 16 131071 rfl rfl rfl (Val.addL rfl rfl (by first | omega | (simp <;> omega))) ?_ (hro := ro_s)
        refine TA.one 17 (by kernel_rfl) ?_
        refine TO.dz 262143 (some 24) rfl rfl rfl rfl (Does.callF go78 rfl (refSip_fn k (lab ++ [2] ++ put8 n) _ (by simp; omega))) ?_
        rintro _ _ ⟨rfl, rfl⟩
        refine ⟨ro_s, ?_⟩
        refine TA.tk 18 524287 rfl rfl rfl (Val.buildA ar57 sz24 ze57 rfl rfl) ?_ (hro := ro_s)
        refine TA.one 19 (by kernel_rfl) ?_
        refine TO.dz 1048575 none rfl rfl rfl rfl (Does.store (i := 2) rfl rfl rfl sz57 rfl rfl (by first | exact Nat.le_of_ble_eq_true rfl | decide | omega) rfl rfl) ?_
        rintro _ _ ⟨rfl, rfl⟩
        refine ⟨ro_s, ?_⟩
        refine TA.done (by kernel_rfl) ?_
        refine AtX.join () ?_ (Sub.cons rfl (Sub.nil _)) ro_s
        trivial
       ·
        refine TO.dz 53247 (some 22) rfl rfl rfl rfl (Does.callF go80 rfl (refPut_fn _ _)) ?_
        rintro _ _ ⟨rfl, rfl⟩
        refine ⟨ro_s, ?_⟩
        refine TA.one 12 (by kernel_rfl) ?_
        refine TO.dz 57343 (some 19) rfl rfl rfl rfl (Val.does (Val.b2s (l := [2]) rfl us34 ui5 un9 rfl (.some (Rd.get (i := 0) rfl rfl)))) ?_
        rintro _ _ ⟨rfl, rfl⟩
        refine ⟨ro_s, ?_⟩
        refine TA.tk 13 65535 rfl rfl rfl (Val.addL (b := [2]) rfl rfl (by simp; omega)) ?_ (hro := ro_s)
        refine TA.tk 16 131071 rfl rfl rfl (Val.addL rfl rfl (by first | omega | (simp <;> omega))) ?_ (hro := ro_s)
        refine TA.one 17 (by kernel_rfl) ?_
        refine TO.dz 262143 (some 24) rfl rfl rfl rfl (Does.callF go78 rfl (refSip_fn k (lab ++ [2] ++ put8 n) _ (by simp; omega))) ?_
        rintro _ _ ⟨rfl, rfl⟩
        refine ⟨ro_s, ?_⟩
        refine TA.tk 18 524287 rfl rfl rfl (Val.buildA ar57 sz24 ze57 rfl rfl) ?_ (hro := ro_s)
        refine TA.one 19 (by kernel_rfl) ?_
        refine TO.dz 1048575 none rfl rfl rfl rfl (Does.store (i := 2) rfl rfl rfl sz57 rfl rfl (by first | exact Nat.le_of_ble_eq_true rfl | decide | omega) rfl rfl) ?_
        rintro _ _ ⟨rfl, rfl⟩
        refine ⟨ro_s, ?_⟩
        refine TA.done (by kernel_rfl) ?_
        refine AtX.join () ?_ (Sub.cons rfl (Sub.nil _)) ro_s
        trivial
      ·
       refine TO.dz 24319 (some 19) rfl rfl rfl rfl (Val.does (Val.b2s (l := [2]) rfl us34 ui5 un9 rfl (.some (Rd.get (i := 0) rfl rfl)))) ?_
       rintro _ _ ⟨rfl, rfl⟩
       refine ⟨ro_s, ?_⟩
       refine TA.tk 13 32511 rfl rfl rfl (Val.addL (b := [2]) rfl rfl (by simp; omega)) ?_ (hro := ro_s)
       refine TA.one 8 (by kernel_rfl) ?_
       refine TO.dz 32767 (some 15) rfl rfl rfl rfl (Does.callF go78 rfl (refSip_fn k (lab ++ [1] ++ put8 n) _ (by simp; omega))) ?_
       rintro _ _ ⟨rfl, rfl⟩
       refine ⟨ro_s, ?_⟩
       refine TA.one 15 (by kernel_rfl) ?_
       refine TO.dz 65535 (some 22) rfl rfl rfl rfl (Does.callF go80 rfl (refPut_fn _ _)) ?_
       rintro _ _ ⟨rfl, rfl⟩
       refine ⟨ro_s, ?_⟩
       refine TA.tk 16 131071 rfl rfl rfl (Val.addL rfl rfl (by first | omega | (simp <;> omega))) ?_ (hro := ro_s)
       refine TA.one 17 (by kernel_rfl) ?_
       refine TO.dz 262143 (some 24) rfl rfl rfl rfl (Does.callF go78 rfl (refSip_fn k (lab ++ [2] ++ put8 n) _ (by simp; omega))) ?_
       rintro _ _ ⟨rfl, rfl⟩
       refine ⟨ro_s, ?_⟩
       refine TA.tk 18 524287 rfl rfl rfl (Val.buildA ar57 sz24 ze57 rfl rfl) ?_ (hro := ro_s)
       refine TA.one 19 (by kernel_rfl) ?_
       refine TO.dz 1048575 none rfl rfl rfl rfl (Does.store (i := 2) rfl rfl rfl sz57 rfl rfl (by first | exact Nat.le_of_ble_eq_true rfl | decide | omega) rfl rfl) ?_
       rintro _ _ ⟨rfl, rfl⟩
       refine ⟨ro_s, ?_⟩
       refine TA.done (by kernel_rfl) ?_
       refine AtX.join () ?_ (Sub.cons rfl (Sub.nil _)) ro_s
       trivial
     ·
      refine TO.dz 24167 (some 19) rfl rfl rfl rfl (Val.does (Val.b2s (l := [2]) rfl us34 ui5 un9 rfl (.some (Rd.get (i := 0) rfl rfl)))) ?_
      rintro _ _ ⟨rfl, rfl⟩
      refine ⟨ro_s, ?_⟩
      refine TA.tk 13 32359 rfl rfl rfl (Val.addL (b := [2]) rfl rfl (by simp; omega)) ?_ (hro := ro_s)
      refine TA.one 3 (by kernel_rfl) ?_
      refine TO.dz 32367 (some 10) rfl rfl rfl rfl (Val.does (Val.b2s (l := [1]) rfl us34 ui5 un9 rfl (.some (Rd.get (i := 1) rfl rfl)))) ?_
      rintro _ _ ⟨rfl, rfl⟩
      refine ⟨ro_s, ?_⟩
      refine TA.tk 4 32383 rfl rfl rfl (Val.addL (b := [1]) rfl rfl (by simp; omega)) ?_ (hro := ro_s)
      refine TA.tk 7 32511 rfl rfl rfl (Val.addL rfl rfl (by first | omega | (simp <;> omega))) ?_ (hro := ro_s)
      refine TA.one 8 (by kernel_rfl) ?_
      refine TO.dz 32767 (some 15) rfl rfl rfl rfl (Does.callF go78 rfl (refSip_fn k (lab ++ [1] ++ put8 n) _ (by simp; omega))) ?_
      rintro _ _ ⟨rfl, rfl⟩
      refine ⟨ro_s, ?_⟩
      refine TA.one 15 (by kernel_rfl) ?_
      refine TO.dz 65535 (some 22) rfl rfl rfl rfl (Does.callF go80 rfl (refPut_fn _ _)) ?_
      rintro _ _ ⟨rfl, rfl⟩
      refine ⟨ro_s, ?_⟩
      refine TA.tk 16 131071 rfl rfl rfl (Val.addL rfl rfl (by first | omega | (simp <;> omega))) ?_ (hro := ro_s)
      refine TA.one 17 (by kernel_rfl) ?_
      refine TO.dz 262143 (some 24) rfl rfl rfl rfl (Does.callF go78 rfl (refSip_fn k (lab ++ [2] ++ put8 n) _ (by simp; omega))) ?_
      rintro _ _ ⟨rfl, rfl⟩
      refine ⟨ro_s, ?_⟩
      refine TA.tk 18 524287 rfl rfl rfl (Val.buildA ar57 sz24 ze57 rfl rfl) ?_ (hro := ro_s)
      refine TA.one 19 (by kernel_rfl) ?_
      refine TO.dz 1048575 none rfl rfl rfl rfl (Does.store (i := 2) rfl rfl rfl sz57 rfl rfl (by first | exact Nat.le_of_ble_eq_true rfl | decide | omega) rfl rfl) ?_
      rintro _ _ ⟨rfl, rfl⟩
      refine ⟨ro_s, ?_⟩
      refine TA.done (by kernel_rfl) ?_
      refine AtX.join () ?_ (Sub.cons rfl (Sub.nil _)) ro_s
      trivial
    ·
     refine TO.dz 24103 (some 19) rfl rfl rfl rfl (Val.does (Val.b2s (l := [2]) rfl us34 ui5 un9 rfl (.some (Rd.get (i := 0) rfl rfl)))) ?_
     rintro _ _ ⟨rfl, rfl⟩
     refine ⟨ro_s, ?_⟩
     refine TA.tk 13 32295 rfl rfl rfl (Val.addL (b := [2]) rfl rfl (by simp; omega)) ?_ (hro := ro_s)
     refine TA.two 3 6 (by kernel_rfl) ?_ ?_
     ·
      refine TO.dz 32303 (some 10) rfl rfl rfl rfl (Val.does (Val.b2s (l := [1]) rfl us34 ui5 un9 rfl (.some (Rd.get (i := 1) rfl rfl)))) ?_
      rintro _ _ ⟨rfl, rfl⟩
      refine ⟨ro_s, ?_⟩
      refine TA.tk 4 32319 rfl rfl rfl (Val.addL (b := [1]) rfl rfl (by simp; omega)) ?_ (hro := ro_s)
      refine TA.one 6 (by kernel_rfl) ?_
      refine TO.dz 32383 (some 13) rfl rfl rfl rfl (Does.callF go80 rfl (refPut_fn _ _)) ?_
      rintro _ _ ⟨rfl, rfl⟩
      refine ⟨ro_s, ?_⟩
      refine TA.tk 7 32511 rfl rfl rfl (Val.addL rfl rfl (by first | omega | (simp <;> omega))) ?_ (hro := ro_s)
      refine TA.one 8 (by kernel_rfl) ?_
      refine TO.dz 32767 (some 15) rfl rfl rfl rfl (Does.callF go78 rfl (refSip_fn k (lab ++ [1] ++ put8 n) _ (by simp; omega))) ?_
      rintro _ _ ⟨rfl, rfl⟩
      refine ⟨ro_s, ?_⟩
      refine TA.one 15 (by kernel_rfl) ?_
      refine TO.dz 65535 (some 22) rfl rfl rfl rfl (Does.callF go80 rfl (refPut_fn _ _)) ?_
      rintro _ _ ⟨rfl, rfl⟩
      refine ⟨ro_s, ?_⟩
      refine TA.tk 16 131071 rfl rfl rfl (Val.addL rfl rfl (by first | omega | (simp <;> omega))) ?_ (hro := ro_s)
      refine TA.one 17 (by kernel_rfl) ?_
      refine TO.dz 262143 (some 24) rfl rfl rfl rfl (Does.callF go78 rfl (refSip_fn k (lab ++ [2] ++ put8 n) _ (by simp; omega))) ?_
      rintro _ _ ⟨rfl, rfl⟩
      refine ⟨ro_s, ?_⟩
      refine TA.tk 18 524287 rfl rfl rfl (Val.buildA ar57 sz24 ze57 rfl rfl) ?_ (hro := ro_s)
      refine TA.one 19 (by kernel_rfl) ?_
      refine TO.dz 1048575 none rfl rfl rfl rfl (Does.store (i := 2) rfl rfl rfl sz57 rfl rfl (by first | exact Nat.le_of_ble_eq_true rfl | decide | omega) rfl rfl) ?_
      rintro _ _ ⟨rfl, rfl⟩
      refine ⟨ro_s, ?_⟩
      refine TA.done (by kernel_rfl) ?_
      refine AtX.join () ?_ (Sub.cons rfl (Sub.nil _)) ro_s
      trivial
     ·
      refine TO.dz 32359 (some 13) rfl rfl rfl rfl (Does.callF go80 rfl (refPut_fn _ _)) ?_
      rintro _ _ ⟨rfl, rfl⟩
      refine ⟨ro_s, ?_⟩
      refine TA.one 3 (by kernel_rfl) ?_
      refine TO.dz 32367 (some 10) rfl rfl rfl rfl (Val.does (Val.b2s (l := [1]) rfl us34 ui5 un9 rfl (.some (Rd.get (i := 1) rfl rfl)))) ?_
      rintro _ _ ⟨rfl, rfl⟩
      refine ⟨ro_s, ?_⟩
      refine TA.tk 4 32383 rfl rfl rfl (Val.addL (b := [1]) rfl rfl (by simp; omega)) ?_ (hro := ro_s)
      refine TA.tk 7 32511 rfl rfl rfl (Val.addL rfl rfl (by first | omega | (simp <;> omega))) ?_ (hro := ro_s)
      refine TA.one 8 (by kernel_rfl) ?_
      refine TO.dz 32767 (some 15) rfl rfl rfl rfl (Does.callF go78 rfl (refSip_fn k (lab ++ [1] ++ put8 n) _ (by simp; omega))) ?_
      rintro _ _ ⟨rfl, rfl⟩
      refine ⟨ro_s, ?_⟩
      refine TA.one 15 (by kernel_rfl) ?_
      refine TO.dz 65535 (some 22) rfl rfl rfl rfl (Does.callF go80 rfl (refPut_fn _ _)) ?_
      rintro _ _ ⟨rfl, rfl⟩
      refine ⟨ro_s, ?_⟩
      refine TA.tk 16 131071 rfl rfl rfl (Val.addL rfl rfl (by first | omega | (simp <;> omega))) ?_ (hro := ro_s)
      refine TA.one 17 (by kernel_rfl) ?_
      refine TO.dz 262143 (some 24) rfl rfl rfl rfl (Does.callF go78 rfl (refSip_fn k (lab ++ [2] ++ put8 n) _ (by simp; omega))) ?_
      rintro _ _ ⟨rfl, rfl⟩
      refine ⟨ro_s, ?_⟩
      refine TA.tk 18 524287 rfl rfl rfl (Val.buildA ar57 sz24 ze57 rfl rfl) ?_ (hro := ro_s)
      refine TA.one 19 (by kernel_rfl) ?_
      refine TO.dz 1048575 none rfl rfl rfl rfl (Does.store (i := 2) rfl rfl rfl sz57 rfl rfl (by first | exact Nat.le_of_ble_eq_true rfl | decide | omega) rfl rfl) ?_
      rintro _ _ ⟨rfl, rfl⟩
      refine ⟨ro_s, ?_⟩
      refine TA.done (by kernel_rfl) ?_
      refine AtX.join () ?_ (Sub.cons rfl (Sub.nil _)) ro_s
      trivial
  ·
   refine TO.dz 18019 (some 13) rfl rfl rfl rfl (Does.callF go80 rfl (refPut_fn _ _)) ?_
   rintro _ _ ⟨rfl, rfl⟩
   refine ⟨ro_s, ?_⟩
   refine TA.two 2 11 (by kernel_rfl) ?_ ?_
   ·
    refine TO.dz 18023 (some 9) rfl rfl rfl rfl (Does.buildSlice sl34 sz5 ze5 (by decide) (by decide) rfl rfl rfl) ?_
    rintro _ _ ⟨b52, rfl, rfl⟩
    refine ⟨ro_s, ?_⟩
    refine TA.two 3 11 (by kernel_rfl) ?_ ?_
    ·
     refine TO.dz 18031 (some 10) rfl rfl rfl rfl (Val.does (Val.b2s (l := [1]) rfl us34 ui5 un9 rfl (.some (Rd.get (i := 0) rfl rfl)))) ?_
     rintro _ _ ⟨rfl, rfl⟩
     refine ⟨ro_s, ?_⟩
     refine TA.tk 4 18047 rfl rfl rfl (Val.addL (b := [1]) rfl rfl (by simp; omega)) ?_ (hro := ro_s)
     refine TA.tk 7 18175 rfl rfl rfl (Val.addL rfl rfl (by first | omega | (simp <;> omega))) ?_ (hro := ro_s)
     refine TA.two 8 11 (by kernel_rfl) ?_ ?_
     ·
      refine TO.dz 18431 (some 15) rfl rfl rfl rfl (Does.callF go78 rfl (refSip_fn k (lab ++ [1] ++ put8 n) _ (by simp; omega))) ?_
      rintro _ _ ⟨rfl, rfl⟩
      refine ⟨ro_s, ?_⟩
      refine TA.two 11 15 (by kernel_rfl) ?_ ?_
      ·
       refine TO.dz 20479 (some 18) rfl rfl rfl rfl (Does.buildSlice sl34 sz5 ze5 (by decide) (by decide) rfl rfl rfl) ?_
       rintro _ _ ⟨b53, rfl, rfl⟩
       refine ⟨ro_s, ?_⟩
       refine TA.two 12 15 (by kernel_rfl) ?_ ?_
       ·
        refine TO.dz 24575 (some 19) rfl rfl rfl rfl (Val.does (Val.b2s (l := [2]) rfl us34 ui5 un9 rfl (.some (Rd.get (i := 0) rfl rfl)))) ?_
        rintro _ _ ⟨rfl, rfl⟩
        refine ⟨ro_s, ?_⟩
        refine TA.tk 13 32767 rfl rfl rfl (Val.addL (b := [2]) rfl rfl (by simp; omega)) ?_ (hro := ro_s)
        refine TA.one 15 (by kernel_rfl) ?_
        refine TO.dz 65535 (some 22) rfl rfl rfl rfl (Does.callF go80 rfl (refPut_fn _ _)) ?_
        rintro _ _ ⟨rfl, rfl⟩
        refine ⟨ro_s, ?_⟩
        refine TA.tk 16 131071 rfl rfl rfl (Val.addL rfl rfl (by first | omega | (simp <;> omega))) ?_ (hro := ro_s)
        refine TA.one 17 (by kernel_rfl) ?_
        refine TO.dz 262143 (some 24) rfl rfl rfl rfl (Does.callF go78 rfl (refSip_fn k (lab ++ [2] ++ put8 n) _ (by simp; omega))) ?_
        rintro _ _ ⟨rfl, rfl⟩
        refine ⟨ro_s, ?_⟩
        refine TA.tk 18 524287 rfl rfl rfl (Val.buildA ar57 sz24 ze57 rfl rfl) ?_ (hro := ro_s)
        refine TA.one 19 (by kernel_rfl) ?_
        refine TO.dz 1048575 none rfl rfl rfl rfl (Does.store (i := 2) rfl rfl rfl sz57 rfl rfl (by first | exact Nat.le_of_ble_eq_true rfl | decide | omega) rfl rfl) ?_
        rintro _ _ ⟨rfl, rfl⟩
        refine ⟨ro_s, ?_⟩
        refine TA.done (by kernel_rfl) ?_
        refine AtX.join () ?_ (Sub.cons rfl (Sub.nil _)) ro_s
        trivial
       ·
        refine TO.dz 53247 (some 22) rfl rfl rfl rfl (Does.callF go80 rfl (refPut_fn _ _)) ?_
        rintro _ _ ⟨rfl, rfl⟩
        refine ⟨ro_s, ?_⟩
        refine TA.one 12 (by kernel_rfl) ?_
        refine TO.dz 57343 (some 19) rfl rfl rfl rfl (Val.does (Val.b2s (l := [2]) rfl us34 ui5 un9 rfl (.some (Rd.get (i := 0) rfl rfl)))) ?_
        rintro _ _ ⟨rfl, rfl⟩
        refine ⟨ro_s, ?_⟩
        refine TA.tk 13 65535 rfl rfl rfl (Val.addL (b := [2]) rfl rfl (by simp; omega)) ?_ (hro := ro_s)
        refine TA.tk 16 131071 rfl rfl rfl (Val.addL rfl rfl (by first | omega | (simp <;> omega))) ?_ (hro := ro_s)
        refine TA.one 17 (by kernel_rfl) ?_
        refine TO.dz 262143 (some 24) rfl rfl rfl rfl (Does.callF go78 rfl (refSip_fn k (lab ++ [2] ++ put8 n) _ (by simp; omega))) ?_
        rintro _ _ ⟨rfl, rfl⟩
        refine ⟨ro_s, ?_⟩
        refine TA.tk 18 524287 rfl rfl rfl (Val.buildA ar57 sz24 ze57 rfl rfl) ?_ (hro := ro_s)
        refine TA.one 19 (by kernel_rfl) ?_
        refine TO.dz 1048575 none rfl rfl rfl rfl (Does.store (i := 2) rfl rfl rfl sz57 rfl rfl (by first | exact Nat.le_of_ble_eq_true rfl | decide | omega) rfl rfl) ?_
        rintro _ _ ⟨rfl, rfl⟩
        refine ⟨ro_s, ?_⟩
        refine TA.done (by kernel_rfl) ?_
        refine AtX.join () ?_ (Sub.cons rfl (Sub.nil _)) ro_s
        trivial
      ·
       refine TO.dz 51199 (some 22) rfl rfl rfl rfl (Does.callF go80 rfl (refPut_fn _ _)) ?_
       rintro _ _ ⟨rfl, rfl⟩
       refine ⟨ro_s, ?_⟩
       refine TA.one 11 (by kernel_rfl) ?_
       refine TO.dz 53247 (some 18) rfl rfl rfl rfl (Does.buildSlice sl34 sz5 ze5 (by decide) (by decide) rfl rfl rfl) ?_
       rintro _ _ ⟨b57, rfl, rfl⟩
       refine ⟨ro_s, ?_⟩
       refine TA.one 12 (by kernel_rfl) ?_
       refine TO.dz 57343 (some 19) rfl rfl rfl rfl (Val.does (Val.b2s (l := [2]) rfl us34 ui5 un9 rfl (.some (Rd.get (i := 0) rfl rfl)))) ?_
       rintro _ _ ⟨rfl, rfl⟩
       refine ⟨ro_s, ?_⟩
       refine TA.tk 13 65535 rfl rfl rfl (Val.addL (b := [2]) rfl rfl (by simp; omega)) ?_ (hro := ro_s)
       refine TA.tk 16 131071 rfl rfl rfl (Val.addL rfl rfl (by first | omega | (simp <;> omega))) ?_ (hro := ro_s)
       refine TA.one 17 (by kernel_rfl) ?_
       refine TO.dz 262143 (some 24) rfl rfl rfl rfl (Does.callF go78 rfl (refSip_fn k (lab ++ [2] ++ put8 n) _ (by simp; omega))) ?_
       rintro _ _ ⟨rfl, rfl⟩
       refine ⟨ro_s, ?_⟩
       refine TA.tk 18 524287 rfl rfl rfl (Val.buildA ar57 sz24 ze57 rfl rfl) ?_ (hro := ro_s)
       refine TA.one 19 (by kernel_rfl) ?_
       refine TO.dz 1048575 none rfl rfl rfl rfl (Does.store (i := 2) rfl rfl rfl sz57 rfl rfl (by first | exact Nat.le_of_ble_eq_true rfl | decide | omega) rfl rfl) ?_
       rintro _ _ ⟨rfl, rfl⟩
       refine ⟨ro_s, ?_⟩
       refine TA.done (by kernel_rfl) ?_
       refine AtX.join () ?_ (Sub.cons rfl (Sub.nil _)) ro_s
       trivial
     ·
      refine TO.dz 20223 (some 18) rfl rfl rfl rfl (Does.buildSlice sl34 sz5 ze5 (by decide) (by decide) rfl rfl rfl) ?_
      rintro _ _ ⟨b58, rfl, rfl⟩
      refine ⟨ro_s, ?_⟩
      refine TA.two 8 12 (by kernel_rfl) ?_ ?_
      ·
       refine TO.dz 20479 (some 15) rfl rfl rfl rfl (Does.callF go78 rfl (refSip_fn k (lab ++ [1] ++ put8 n) _ (by simp; omega))) ?_
       rintro _ _ ⟨rfl, rfl⟩
       refine ⟨ro_s, ?_⟩
       refine TA.two 12 15 (by kernel_rfl) ?_ ?_
       ·
        refine TO.dz 24575 (some 19) rfl rfl rfl rfl (Val.does (Val.b2s (l := [2]) rfl us34 ui5 un9 rfl (.some (Rd.get (i := 0) rfl rfl)))) ?_
        rintro _ _ ⟨rfl, rfl⟩
        refine ⟨ro_s, ?_⟩
        refine TA.tk 13 32767 rfl rfl rfl (Val.addL (b := [2]) rfl rfl (by simp; omega)) ?_ (hro := ro_s)
        refine TA.one 15 (by kernel_rfl) ?_
        refine TO.dz 65535 (some 22) rfl rfl rfl rfl (Does.callF go80 rfl (refPut_fn _ _)) ?_
        rintro _ _ ⟨rfl, rfl⟩
        refine ⟨ro_s, ?_⟩
        refine TA.tk 16 131071 rfl rfl rfl (Val.addL rfl rfl (by first | omega | (simp <;> omega))) ?_ (hro := ro_s)
        refine TA.one 17 (by kernel_rfl) ?_
        refine TO.dz 262143 (some 24) rfl rfl rfl rfl (Does.callF go78 rfl (refSip_fn k (lab ++ [2] ++ put8 n) _ (by simp; omega))) ?_
        rintro _ _ ⟨rfl, rfl⟩
        refine ⟨ro_s, ?_⟩
        refine TA.tk 18 524287 rfl rfl rfl (Val.buildA ar57 sz24 ze57 rfl rfl) ?_ (hro := ro_s)
        refine TA.one 19 (by kernel_rfl) ?_
        refine TO.dz 1048575 none rfl rfl rfl rfl (Does.store (i := 2) rfl rfl rfl sz57 rfl rfl (by first | exact Nat.le_of_ble_eq_true rfl | decide | omega) rfl rfl) ?_
        rintro _ _ ⟨rfl, rfl⟩
        refine ⟨ro_s, ?_⟩
        refine TA.done (by kernel_rfl) ?_
        refine AtX.join () ?_ (Sub.cons rfl (Sub.nil _)) ro_s
        trivial
       ·
        refine TO.dz 53247 (some 22) rfl rfl rfl rfl (Does.callF go80 rfl (refPut_fn _ _)) ?_
        rintro _ _ ⟨rfl, rfl⟩
        refine ⟨ro_s, ?_⟩
        refine TA.one 12 (by kernel_rfl) ?_
        refine TO.dz 57343 (some 19) rfl rfl rfl rfl (Val.does (Val.b2s (l := [2]) rfl us34 ui5 un9 rfl (.some (Rd.get (i := 0) rfl rfl)))) ?_
        rintro _ _ ⟨rfl, rfl⟩
        refine ⟨ro_s, ?_⟩
        refine TA.tk 13 65535 rfl rfl rfl (Val.addL (b := [2]) rfl rfl (by simp; omega)) ?_ (hro := ro_s)
        refine TA.tk 16 131071 rfl rfl rfl (Val.addL rfl rfl (by first | omega | (simp <;> omega))) ?_ (hro := ro_s)
        refine TA.one 17 (by kernel_rfl) ?_
        refine TO.dz 262143 (some 24) rfl rfl rfl rfl (Does.callF go78 rfl (refSip_fn k (lab ++ [2] ++ put8 n) _ (by simp; omega))) ?_
        rintro _ _ ⟨rfl, rfl⟩
        refine ⟨ro_s, ?_⟩
        refine TA.tk 18 524287 rfl rfl rfl (Val.buildA ar57 sz24 ze57 rfl rfl) ?_ (hro := ro_s)
        refine TA.one 19 (by kernel_rfl) ?_
        refine TO.dz 1048575 none rfl rfl rfl rfl (Does.store (i := 2) rfl rfl rfl sz57 rfl rfl (by first | exact Nat.le_of_ble_eq_true rfl | decide | omega) rfl rfl) ?_
        rintro _ _ ⟨rfl, rfl⟩
        refine ⟨ro_s, ?_⟩
        refine TA.done (by kernel_rfl) ?_
        refine AtX.join () ?_ (Sub.cons rfl (Sub.nil _)) ro_s
        trivial
      ·
       refine TO.dz 24319 (some 19) rfl rfl rfl rfl (Val.does (Val.b2s (l := [2]) rfl us34 ui5 un9 rfl (.some (Rd.get (i := 0) rfl rfl)))) ?_
       rintro _ _ ⟨rfl, rfl⟩
       refine ⟨ro_s, ?_⟩
       refine TA.tk 13 32511 rfl rfl rfl (Val.addL (b := [2]) rfl rfl (by simp; omega)) ?_ (hro := ro_s)
       refine TA.one 8 (by kernel_rfl) ?_
       refine TO.dz 32767 (some 15) rfl rfl rfl rfl (Does.callF go78 rfl (refSip_fn k (lab ++ [1] ++ put8 n) _ (by simp; omega))) ?_
       rintro _ _ ⟨rfl, rfl⟩
       refine ⟨ro_s, ?_⟩
       refine TA.one 15 (by kernel_rfl) ?_
       refine TO.dz 65535 (some 22) rfl rfl rfl rfl (Does.callF go80 rfl (refPut_fn _ _)) ?_
       rintro _ _ ⟨rfl, rfl⟩
       refine ⟨ro_s, ?_⟩
       refine TA.tk 16 131071 rfl rfl rfl (Val.addL rfl rfl (by first | omega | (simp <;> omega))) ?_ (hro := ro_s)
       refine TA.one 17 (by kernel_rfl) ?_
       refine TO.dz 262143 (some 24) rfl rfl rfl rfl (Does.callF go78 rfl (refSip_fn k (lab ++ [2] ++ put8 n) _ (by simp; omega))) ?_
       rintro _ _ ⟨rfl, rfl⟩
       refine ⟨ro_s, ?_⟩
       refine TA.tk 18 524287 rfl rfl rfl (Val.buildA ar57 sz24 ze57 rfl rfl) ?_ (hro := ro_s)
       refine TA.one 19 (by kernel_rfl) ?_
       refine TO.dz 1048575 none rfl rfl rfl rfl (Does.store (i := 2) rfl rfl rfl sz57 rfl rfl (by first | exact Nat.le_of_ble_eq_true rfl | decide | omega) rfl rfl) ?_
       rintro _ _ ⟨rfl, rfl⟩
       refine ⟨ro_s, ?_⟩
       refine TA.done (by kernel_rfl) ?_
       refine AtX.join () ?_ (Sub.cons rfl (Sub.nil _)) ro_s
       trivial
    ·
     refine TO.dz 20071 (some 18) rfl rfl rfl rfl (Does.buildSlice sl34 sz5 ze5 (by decide) (by decide) rfl rfl rfl) ?_
     rintro _ _ ⟨b62, rfl, rfl⟩
     refine ⟨ro_s, ?_⟩
     refine TA.two 3 12 (by kernel_rfl) ?_ ?_
     ·
      refine TO.dz 20079 (some 10) rfl rfl rfl rfl (Val.does (Val.b2s (l := [1]) rfl us34 ui5 un9 rfl (.some (Rd.get (i := 1) rfl rfl)))) ?_
      rintro _ _ ⟨rfl, rfl⟩
      refine ⟨ro_s, ?_⟩
      refine TA.tk 4 20095 rfl rfl rfl (Val.addL (b := [1]) rfl rfl (by simp; omega)) ?_ (hro := ro_s)
      refine TA.tk 7 20223 rfl rfl rfl (Val.addL rfl rfl (by first | omega | (simp <;> omega))) ?_ (hro := ro_s)
      refine TA.two 8 12 (by kernel_rfl) ?_ ?_
      ·
       refine TO.dz 20479 (some 15) rfl rfl rfl rfl (Does.callF go78 rfl (refSip_fn k (lab ++ [1] ++ put8 n) _ (by simp; omega))) ?_
       rintro _ _ ⟨rfl, rfl⟩
       refine ⟨ro_s, ?_⟩
       refine TA.two 12 15 (by kernel_rfl) ?_ ?_
       ·
        refine TO.dz 24575 (some 19) rfl rfl rfl rfl (Val.does (Val.b2s (l := [2]) rfl us34 ui5 un9 rfl (.some (Rd.get (i := 0) rfl rfl)))) ?_
        rintro _ _ ⟨rfl, rfl⟩
        refine ⟨ro_s, ?_⟩
        refine TA.tk 13 32767 rfl rfl rfl (Val.addL (b := [2]) rfl rfl (by simp; omega)) ?_ (hro := ro_s)
        refine TA.one 15 (by kernel_rfl) ?_
        refine TO.dz 65535 (some 22) rfl rfl rfl rfl (Does.callF go80 rfl (refPut_fn _ _)) ?_
        rintro _ _ ⟨rfl, rfl⟩
        refine ⟨ro_s, ?_⟩
        refine TA.tk 16 131071 rfl rfl rfl (Val.addL rfl rfl (by first | omega | (simp <;> omega))) ?_ (hro := ro_s)
        refine TA.one 17 (by kernel_rfl) ?_
        refine TO.dz 262143 (some 24) rfl rfl rfl rfl (Does.callF go78 rfl (refSip_fn k (lab ++ [2] ++ put8 n) _ (by simp; omega))) ?_
        rintro _ _ ⟨rfl, rfl⟩
        refine ⟨ro_s, ?_⟩
        refine TA.tk 18 524287 rfl rfl rfl (Val.buildA ar57 sz24 ze57 rfl rfl) ?_ (hro := ro_s)
        refine TA.one 19 (by kernel_rfl) ?_
        refine TO.dz 1048575 none rfl rfl rfl rfl (Does.store (i := 2) rfl rfl rfl sz57 rfl rfl (by first | exact Nat.le_of_ble_eq_true rfl | decide | omega) rfl rfl) ?_
        rintro _ _ ⟨rfl, rfl⟩
        refine ⟨ro_s, ?_⟩
        refine TA.done (by kernel_rfl) ?_
        refine AtX.join () ?_ (Sub.cons rfl (Sub.nil _)) ro_s
        trivial
       ·
        refine TO.dz 53247 (some 22) rfl rfl rfl rfl (Does.callF go80 rfl (refPut_fn _ _)) ?_
        rintro _ _ ⟨rfl, rfl⟩
        refine ⟨ro_s, ?_⟩
        refine TA.one 12 (by kernel_rfl) ?_
        refine TO.dz 57343 (some 19) rfl rfl rfl rfl (Val.does (Val.b2s (l := [2]) rfl us34 ui5 un9 rfl (.some (Rd.get (i := 0) rfl rfl)))) ?_
        rintro _ _ ⟨rfl, rfl⟩
        refine ⟨ro_s, ?_⟩
        refine TA.tk 13 65535 rfl rfl rfl (Val.addL (b := [2]) rfl rfl (by simp; omega)) ?_ (hro := ro_s)
        refine TA.tk 16 131071 rfl rfl rfl (Val.addL rfl rfl (by first | omega | (simp <;> omega))) ?_ (hro := ro_s)
        refine TA.one 17 (by kernel_rfl) ?_
        refine TO.dz 262143 (some 24) rfl rfl rfl rfl (Does.callF go78 rfl (refSip_fn k (lab ++ [2] ++ put8 n) _ (by simp; omega))) ?_
        rintro _ _ ⟨rfl, rfl⟩
        refine ⟨ro_s, ?_⟩
        refine TA.tk 18 524287 rfl rfl rfl (Val.buildA ar57 sz24 ze57 rfl rfl) ?_ (hro := ro_s)
        refine TA.one 19 (by kernel_rfl) ?_
        refine TO.dz 1048575 none rfl rfl rfl rfl (Does.store (i := 2) rfl rfl rfl sz57 rfl rfl (by first | exact Nat.le_of_ble_eq_true rfl | decide | omega) rfl rfl) ?_
        rintro _ _ ⟨rfl, rfl⟩
        refine ⟨ro_s, ?_⟩
        refine TA.done (by kernel_rfl) ?_
        refine AtX.join () ?_ (Sub.cons rfl (Sub.nil _)) ro_s
        trivial
      ·
       refine TO.dz 24319 (some 19) rfl rfl rfl rfl (Val.does (Val.b2s (l := [2]) rfl us34 ui5 un9 rfl (.some (Rd.get (i := 0) rfl rfl)))) ?_
       rintro _ _ ⟨rfl, rfl⟩
       refine ⟨ro_s, ?_⟩
       refine TA.tk 13 32511 rfl rfl rfl (Val.addL (b := [2]) rfl rfl (by simp; omega)) ?_ (hro := ro_s)
       refine TA.one 8 (by kernel_rfl) ?_
       refine TO.dz 32767 (some 15) rfl rfl rfl rfl (Does.callF go78 rfl (refSip_fn k (lab ++ [1] ++ put8 n) _ (by simp; omega))) ?_
       rintro _ _ ⟨rfl, rfl⟩
       refine ⟨ro_s, ?_⟩
       refine TA.one 15 (by kernel_rfl) ?_
       refine TO.dz 65535 (some 22) rfl rfl rfl rfl (Does.callF go80 rfl (refPut_fn _ _)) ?_
       rintro _ _ ⟨rfl, rfl⟩
       refine ⟨ro_s, ?_⟩
       refine TA.tk 16 131071 rfl rfl rfl (Val.addL rfl rfl (by first | omega | (simp <;> omega))) ?_ (hro := ro_s)
       refine TA.one 17 (by kernel_rfl) ?_
       refine TO.dz 262143 (some 24) rfl rfl rfl rfl (Does.callF go78 rfl (refSip_fn k (lab ++ [2] ++ put8 n) _ (by simp; omega))) ?_
       rintro _ _ ⟨rfl, rfl⟩
       refine ⟨ro_s, ?_⟩
       refine TA.tk 18 524287 rfl rfl rfl (Val.buildA ar57 sz24 ze57 rfl rfl) ?_ (hro := ro_s)
       refine TA.one 19 (by kernel_rfl) ?_
       refine TO.dz 1048575 none rfl rfl rfl rfl (Does.store (i := 2) rfl rfl rfl sz57 rfl rfl (by first | exact Nat.le_of_ble_eq_true rfl | decide | omega) rfl rfl) ?_
       rintro _ _ ⟨rfl, rfl⟩
       refine ⟨ro_s, ?_⟩
       refine TA.done (by kernel_rfl) ?_
       refine AtX.join () ?_ (Sub.cons rfl (Sub.nil _)) ro_s
       trivial
     ·
      refine TO.dz 24167 (some 19) rfl rfl rfl rfl (Val.does (Val.b2s (l := [2]) rfl us34 ui5 un9 rfl (.some (Rd.get (i := 0) rfl rfl)))) ?_
      rintro _ _ ⟨rfl, rfl⟩
      refine ⟨ro_s, ?_⟩
      refine TA.tk 13 32359 rfl rfl rfl (Val.addL (b := [2]) rfl rfl (by simp; omega)) ?_ (hro := ro_s)
      refine TA.one 3 (by kernel_rfl) ?_
      refine TO.dz 32367 (some 10) rfl rfl rfl rfl (Val.does (Val.b2s (l := [1]) rfl us34 ui5 un9 rfl (.some (Rd.get (i := 1) rfl rfl)))) ?_
      rintro _ _ ⟨rfl, rfl⟩
      refine ⟨ro_s, ?_⟩
      refine TA.tk 4 32383 rfl rfl rfl (Val.addL (b := [1]) rfl rfl (by simp; omega)) ?_ (hro := ro_s)
      refine TA.tk 7 32511 rfl rfl rfl (Val.addL rfl rfl (by first | omega | (simp <;> omega))) ?_ (hro := ro_s)
      refine TA.one 8 (by kernel_rfl) ?_
      refine TO.dz 32767 (some 15) rfl rfl rfl rfl (Does.callF go78 rfl (refSip_fn k (lab ++ [1] ++ put8 n) _ (by simp; omega))) ?_
      rintro _ _ ⟨rfl, rfl⟩
      refine ⟨ro_s, ?_⟩
      refine TA.one 15 (by kernel_rfl) ?_
      refine TO.dz 65535 (some 22) rfl rfl rfl rfl (Does.callF go80 rfl (refPut_fn _ _)) ?_
      rintro _ _ ⟨rfl, rfl⟩
      refine ⟨ro_s, ?_⟩
      refine TA.tk 16 131071 rfl rfl rfl (Val.addL rfl rfl (by first | omega | (simp <;> omega))) ?_ (hro := ro_s)
      refine TA.one 17 (by kernel_rfl) ?_
      refine TO.dz 262143 (some 24) rfl rfl rfl rfl (Does.callF go78 rfl (refSip_fn k (lab ++ [2] ++ put8 n) _ (by simp; omega))) ?_
      rintro _ _ ⟨rfl, rfl⟩
      refine ⟨ro_s, ?_⟩
      refine TA.tk 18 524287 rfl rfl rfl (Val.buildA ar57 sz24 ze57 rfl rfl) ?_ (hro := ro_s)
      refine TA.one 19 (by kernel_rfl) ?_
      refine TO.dz 1048575 none rfl rfl rfl rfl (Does.store (i := 2) rfl rfl rfl sz57 rfl rfl (by first | exact Nat.le_of_ble_eq_true rfl | decide | omega) rfl rfl) ?_
      rintro _ _ ⟨rfl, rfl⟩
      refine ⟨ro_s, ?_⟩
      refine TA.done (by kernel_rfl) ?_
      refine AtX.join () ?_ (Sub.cons rfl (Sub.nil _)) ro_s
      trivial
   ·
    refine TO.dz 20067 (some 18) rfl rfl rfl rfl (Does.buildSlice sl34 sz5 ze5 (by decide) (by decide) rfl rfl rfl) ?_
    rintro _ _ ⟨b67, rfl, rfl⟩
    refine ⟨ro_s, ?_⟩
    refine TA.two 2 12 (by kernel_rfl) ?_ ?_
    ·
     refine TO.dz 20071 (some 9) rfl rfl rfl rfl (Does.buildSlice sl34 sz5 ze5 (by decide) (by decide) rfl rfl rfl) ?_
     rintro _ _ ⟨b68, rfl, rfl⟩
     refine ⟨ro_s, ?_⟩
     refine TA.two 3 12 (by kernel_rfl) ?_ ?_
     ·
      refine TO.dz 20079 (some 10) rfl rfl rfl rfl (Val.does (Val.b2s (l := [1]) rfl us34 ui5 un9 rfl (.some (Rd.get (i := 0) rfl rfl)))) ?_
      rintro _ _ ⟨rfl, rfl⟩
      refine ⟨ro_s, ?_⟩
      refine TA.tk 4 20095 rfl rfl rfl (Val.addL (b := [1]) rfl rfl (by simp; omega)) ?_ (hro := ro_s)
      refine TA.tk 7 20223 rfl rfl rfl (Val.addL rfl rfl (by first | omega | (simp <;> omega))) ?_ (hro := ro_s)
      refine TA.two 8 12 (by kernel_rfl) ?_ ?_
      ·
       refine TO.dz 20479 (some 15) rfl rfl rfl rfl (Does.callF go78 rfl (refSip_fn k (lab ++ [1] ++ put8 n) _ (by simp; omega))) ?_
       rintro _ _ ⟨rfl, rfl⟩
       refine ⟨ro_s, ?_⟩
       refine TA.two 12 15 (by kernel_rfl) ?_ ?_
       ·
        refine TO.dz 24575 (some 19) rfl rfl rfl rfl (Val.does (Val.b2s (l := [2]) rfl us34 ui5 un9 rfl (.some (Rd.get (i := 1) rfl rfl)))) ?_
        rintro _ _ ⟨rfl, rfl⟩
        refine ⟨ro_s, ?_⟩
        refine TA.tk 13 32767 rfl rfl rfl (Val.addL (b := [2]) rfl rfl (by simp; omega)) ?_ (hro := ro_s)
        refine TA.one 15 (by kernel_rfl) ?_
        refine TO.dz 65535 (some 22) rfl rfl rfl rfl (Does.callF go80 rfl (refPut_fn _ _)) ?_
        rintro _ _ ⟨rfl, rfl⟩
        refine ⟨ro_s, ?_⟩
        refine TA.tk 16 131071 rfl rfl rfl (Val.addL rfl rfl (by first | omega | (simp <;> omega))) ?_ (hro := ro_s)
        refine TA.one 17 (by kernel_rfl) ?_
        refine TO.dz 262143 (some 24) rfl rfl rfl rfl (Does.callF go78 rfl (refSip_fn k (lab ++ [2] ++ put8 n) _ (by simp; omega))) ?_
        rintro _ _ ⟨rfl, rfl⟩
        refine ⟨ro_s, ?_⟩
        refine TA.tk 18 524287 rfl rfl rfl (Val.buildA ar57 sz24 ze57 rfl rfl) ?_ (hro := ro_s)
        refine TA.one 19 (by kernel_rfl) ?_
        refine TO.dz 1048575 none rfl rfl rfl rfl (Does.store (i := 2) rfl rfl rfl sz57 rfl rfl (by first | exact Nat.le_of_ble_eq_true rfl | decide | omega) rfl rfl) ?_
        rintro _ _ ⟨rfl, rfl⟩
        refine ⟨ro_s, ?_⟩
        refine TA.done (by kernel_rfl) ?_
        refine AtX.join () ?_ (Sub.cons rfl (Sub.nil _)) ro_s
        trivial
       ·
        refine TO.dz 53247 (some 22) rfl rfl rfl rfl (Does.callF go80 rfl (refPut_fn _ _)) ?_
        rintro _ _ ⟨rfl, rfl⟩
        refine ⟨ro_s, ?_⟩
        refine TA.one 12 (by kernel_rfl) ?_
        refine TO.dz 57343 (some 19) rfl rfl rfl rfl (Val.does (Val.b2s (l := [2]) rfl us34 ui5 un9 rfl (.some (Rd.get (i := 1) rfl rfl)))) ?_
        rintro _ _ ⟨rfl, rfl⟩
        refine ⟨ro_s, ?_⟩
        refine TA.tk 13 65535 rfl rfl rfl (Val.addL (b := [2]) rfl rfl (by simp; omega)) ?_ (hro := ro_s)
        refine TA.tk 16 131071 rfl rfl rfl (Val.addL rfl rfl (by first | omega | (simp <;> omega))) ?_ (hro := ro_s)
        refine TA.one 17 (by kernel_rfl) ?_
        refine TO.dz 262143 (some 24) rfl rfl rfl rfl (Does.callF go78 rfl (refSip_fn k (lab ++ [2] ++ put8 n) _ (by simp; omega))) ?_
        rintro _ _ ⟨rfl, rfl⟩
        refine ⟨ro_s, ?_⟩
        refine TA.tk 18 524287 rfl rfl rfl (Val.buildA ar57 sz24 ze57 rfl rfl) ?_ (hro := ro_s)
        refine TA.one 19 (by kernel_rfl) ?_
        refine TO.dz 1048575 none rfl rfl rfl rfl (Does.store (i := 2) rfl rfl rfl sz57 rfl rfl (by first | exact Nat.le_of_ble_eq_true rfl | decide | omega) rfl rfl) ?_
        rintro _ _ ⟨rfl, rfl⟩
        refine ⟨ro_s, ?_⟩
        refine TA.done (by kernel_rfl) ?_
        refine AtX.join () ?_ (Sub.cons rfl (Sub.nil _)) ro_s
        trivial
      ·
       refine TO.dz 24319 (some 19) rfl rfl rfl rfl (Val.does (Val.b2s (l := [2]) rfl us34 ui5 un9 rfl (.some (Rd.get (i := 1) rfl rfl)))) ?_
       rintro _ _ ⟨rfl, rfl⟩
       refine ⟨ro_s, ?_⟩
       refine TA.tk 13 32511 rfl rfl rfl (Val.addL (b := [2]) rfl rfl (by simp; omega)) ?_ (hro := ro_s)
       refine TA.one 8 (by kernel_rfl) ?_
       refine TO.dz 32767 (some 15) rfl rfl rfl rfl (Does.callF go78 rfl (refSip_fn k (lab ++ [1] ++ put8 n) _ (by simp; omega))) ?_
       rintro _ _ ⟨rfl, rfl⟩
       refine ⟨ro_s, ?_⟩
       refine TA.one 15 (by kernel_rfl) ?_
       refine TO.dz 65535 (some 22) rfl rfl rfl rfl (Does.callF go80 rfl (refPut_fn _ _)) ?_
       rintro _ _ ⟨rfl, rfl⟩
       refine ⟨ro_s, ?_⟩
       refine TA.tk 16 131071 rfl rfl rfl (Val.addL rfl rfl (by first | omega | (simp <;> omega))) ?_ (hro := ro_s)
       refine TA.one 17 (by kernel_rfl) ?_
       refine TO.dz 262143 (some 24) rfl rfl rfl rfl (Does.callF go78 rfl (refSip_fn k (lab ++ [2] ++ put8 n) _ (by simp; omega))) ?_
       rintro _ _ ⟨rfl, rfl⟩
       refine ⟨ro_s, ?_⟩
       refine TA.tk 18 524287 rfl rfl rfl (Val.buildA ar57 sz24 ze57 rfl rfl) ?_ (hro := ro_s)
       refine TA.one 19 (by kernel_rfl) ?_
       refine TO.dz 1048575 none rfl rfl rfl rfl (Does.store (i := 2) rfl rfl rfl sz57 rfl rfl (by first | exact Nat.le_of_ble_eq_true rfl | decide | omega) rfl rfl) ?_
       rintro _ _ ⟨rfl, rfl⟩
       refine ⟨ro_s, ?_⟩
       refine TA.done (by kernel_rfl) ?_
       refine AtX.join () ?_ (Sub.cons rfl (Sub.nil _)) ro_s
       trivial
     ·
      refine TO.dz 24167 (some 19) rfl rfl rfl rfl (Val.does (Val.b2s (l := [2]) rfl us34 ui5 un9 rfl (.some (Rd.get (i := 1) rfl rfl)))) ?_
      rintro _ _ ⟨rfl, rfl⟩
      refine ⟨ro_s, ?_⟩
      refine TA.tk 13 32359 rfl rfl rfl (Val.addL (b := [2]) rfl rfl (by simp; omega)) ?_ (hro := ro_s)
      refine TA.one 3 (by kernel_rfl) ?_
      refine TO.dz 32367 (some 10) rfl rfl rfl rfl (Val.does (Val.b2s (l := [1]) rfl us34 ui5 un9 rfl (.some (Rd.get (i := 0) rfl rfl)))) ?_
      rintro _ _ ⟨rfl, rfl⟩
      refine ⟨ro_s, ?_⟩
      refine TA.tk 4 32383 rfl rfl rfl (Val.addL (b := [1]) rfl rfl (by simp; omega)) ?_ (hro := ro_s)
      refine TA.tk 7 32511 rfl rfl rfl (Val.addL rfl rfl (by first | omega | (simp <;> omega))) ?_ (hro := ro_s)
      refine TA.one 8 (by kernel_rfl) ?_
      refine TO.dz 32767 (some 15) rfl rfl rfl rfl (Does.callF go78 rfl (refSip_fn k (lab ++ [1] ++ put8 n) _ (by simp; omega))) ?_
      rintro _ _ ⟨rfl, rfl⟩
      refine ⟨ro_s, ?_⟩
      refine TA.one 15 (by kernel_rfl) ?_
      refine TO.dz 65535 (some 22) rfl rfl rfl rfl (Does.callF go80 rfl (refPut_fn _ _)) ?_
      rintro _ _ ⟨rfl, rfl⟩
      refine ⟨ro_s, ?_⟩
      refine TA.tk 16 131071 rfl rfl rfl (Val.addL rfl rfl (by first | omega | (simp <;> omega))) ?_ (hro := ro_s)
      refine TA.one 17 (by kernel_rfl) ?_
      refine TO.dz 262143 (some 24) rfl rfl rfl rfl (Does.callF go78 rfl (refSip_fn k (lab ++ [2] ++ put8 n) _ (by simp; omega))) ?_
      rintro _ _ ⟨rfl, rfl⟩
      refine ⟨ro_s, ?_⟩
      refine TA.tk 18 524287 rfl rfl rfl (Val.buildA ar57 sz24 ze57 rfl rfl) ?_ (hro := ro_s)
      refine TA.one 19 (by kernel_rfl) ?_
      refine TO.dz 1048575 none rfl rfl rfl rfl (Does.store (i := 2) rfl rfl rfl sz57 rfl rfl (by first | exact Nat.le_of_ble_eq_true rfl | decide | omega) rfl rfl) ?_
      rintro _ _ ⟨rfl, rfl⟩
      refine ⟨ro_s, ?_⟩
      refine TA.done (by kernel_rfl) ?_
      refine AtX.join () ?_ (Sub.cons rfl (Sub.nil _)) ro_s
      trivial
    ·
     refine TO.dz 24163 (some 19) rfl rfl rfl rfl (Val.does (Val.b2s (l := [2]) rfl us34 ui5 un9 rfl (.some (Rd.get (i := 0) rfl rfl)))) ?_
     rintro _ _ ⟨rfl, rfl⟩
     refine ⟨ro_s, ?_⟩
     refine TA.tk 13 32355 rfl rfl rfl (Val.addL (b := [2]) rfl rfl (by simp; omega)) ?_ (hro := ro_s)
     refine TA.one 2 (by kernel_rfl) ?_
     refine TO.dz 32359 (some 9) rfl rfl rfl rfl (Does.buildSlice sl34 sz5 ze5 (by decide) (by decide) rfl rfl rfl) ?_
     rintro _ _ ⟨b73, rfl, rfl⟩
     refine ⟨ro_s, ?_⟩
     refine TA.one 3 (by kernel_rfl) ?_
     refine TO.dz 32367 (some 10) rfl rfl rfl rfl (Val.does (Val.b2s (l := [1]) rfl us34 ui5 un9 rfl (.some (Rd.get (i := 0) rfl rfl)))) ?_
     rintro _ _ ⟨rfl, rfl⟩
     refine ⟨ro_s, ?_⟩
     refine TA.tk 4 32383 rfl rfl rfl (Val.addL (b := [1]) rfl rfl (by simp; omega)) ?_ (hro := ro_s)
     refine TA.tk 7 32511 rfl rfl rfl (Val.addL rfl rfl (by first | omega | (simp <;> omega))) ?_ (hro := ro_s)
     refine TA.one 8 (by kernel_rfl) ?_
     refine TO.dz 32767 (some 15) rfl rfl rfl rfl (Does.callF go78 rfl (refSip_fn k (lab ++ [1] ++ put8 n) _ (by simp; omega))) ?_
     rintro _ _ ⟨rfl, rfl⟩
     refine ⟨ro_s, ?_⟩
     refine TA.one 15 (by kernel_rfl) ?_
     refine TO.dz 65535 (some 22) rfl rfl rfl rfl (Does.callF go80 rfl (refPut_fn _ _)) ?_
     rintro _ _ ⟨rfl, rfl⟩
     refine ⟨ro_s, ?_⟩
     refine TA.tk 16 131071 rfl rfl rfl (Val.addL rfl rfl (by first | omega | (simp <;> omega))) ?_ (hro := ro_s)
     refine TA.one 17 (by kernel_rfl) ?_
     refine TO.dz 262143 (some 24) rfl rfl rfl rfl (Does.callF go78 rfl (refSip_fn k (lab ++ [2] ++ put8 n) _ (by simp; omega))) ?_
     rintro _ _ ⟨rfl, rfl⟩
     refine ⟨ro_s, ?_⟩
     refine TA.tk 18 524287 rfl rfl rfl (Val.buildA ar57 sz24 ze57 rfl rfl) ?_ (hro := ro_s)
     refine TA.one 19 (by kernel_rfl) ?_
     refine TO.dz 1048575 none rfl rfl rfl rfl (Does.store (i := 2) rfl rfl rfl sz57 rfl rfl (by first | exact Nat.le_of_ble_eq_true rfl | decide | omega) rfl rfl) ?_
     rintro _ _ ⟨rfl, rfl⟩
     refine ⟨ro_s, ?_⟩
     refine TA.done (by kernel_rfl) ?_
     refine AtX.join () ?_ (Sub.cons rfl (Sub.nil _)) ro_s
     trivial
  ·
   refine TO.dz 20003 (some 18) rfl rfl rfl rfl (Does.buildSlice sl34 sz5 ze5 (by decide) (by decide) rfl rfl rfl) ?_
   rintro _ _ ⟨b75, rfl, rfl⟩
   refine ⟨ro_s, ?_⟩
   refine TA.three 2 6 12 (by kernel_rfl) ?_ ?_ ?_
   ·
    refine TO.dz 20007 (some 9) rfl rfl rfl rfl (Does.buildSlice sl34 sz5 ze5 (by decide) (by decide) rfl rfl rfl) ?_
    rintro _ _ ⟨b76, rfl, rfl⟩
    refine ⟨ro_s, ?_⟩
    refine TA.three 3 6 12 (by kernel_rfl) ?_ ?_ ?_
    ·
     refine TO.dz 20015 (some 10) rfl rfl rfl rfl (Val.does (Val.b2s (l := [1]) rfl us34 ui5 un9 rfl (.some (Rd.get (i := 0) rfl rfl)))) ?_
     rintro _ _ ⟨rfl, rfl⟩
     refine ⟨ro_s, ?_⟩
     refine TA.tk 4 20031 rfl rfl rfl (Val.addL (b := [1]) rfl rfl (by simp; omega)) ?_ (hro := ro_s)
     refine TA.two 6 12 (by kernel_rfl) ?_ ?_
     ·
      refine TO.dz 20095 (some 13) rfl rfl rfl rfl (Does.callF go80 rfl (refPut_fn _ _)) ?_
      rintro _ _ ⟨rfl, rfl⟩
      refine ⟨ro_s, ?_⟩
      refine TA.tk 7 20223 rfl rfl rfl (Val.addL rfl rfl (by first | omega | (simp <;> omega))) ?_ (hro := ro_s)
      refine TA.two 8 12 (by kernel_rfl) ?_ ?_
      ·
       refine TO.dz 20479 (some 15) rfl rfl rfl rfl (Does.callF go78 rfl (refSip_fn k (lab ++ [1] ++ put8 n) _ (by simp; omega))) ?_
       rintro _ _ ⟨rfl, rfl⟩
       refine ⟨ro_s, ?_⟩
       refine TA.two 12 15 (by kernel_rfl) ?_ ?_
       ·
        refine TO.dz 24575 (some 19) rfl rfl rfl rfl (Val.does (Val.b2s (l := [2]) rfl us34 ui5 un9 rfl (.some (Rd.get (i := 1) rfl rfl)))) ?_
        rintro _ _ ⟨rfl, rfl⟩
        refine ⟨ro_s, ?_⟩
        refine TA.tk 13 32767 rfl rfl rfl (Val.addL (b := [2]) rfl rfl (by simp; omega)) ?_ (hro := ro_s)
        refine TA.one 15 (by kernel_rfl) ?_
        refine TO.dz 65535 (some 22) rfl rfl rfl rfl (Does.callF go80 rfl (refPut_fn _ _)) ?_
        rintro _ _ ⟨rfl, rfl⟩
        refine ⟨ro_s, ?_⟩
        refine TA.tk 16 131071 rfl rfl rfl (Val.addL rfl rfl (by first | omega | (simp <;> omega))) ?_ (hro := ro_s)
        refine TA.one 17 (by kernel_rfl) ?_
        refine TO.dz 262143 (some 24) rfl rfl rfl rfl (Does.callF go78 rfl (refSip_fn k (lab ++ [2] ++ put8 n) _ (by simp; omega))) ?_
        rintro _ _ ⟨rfl, rfl⟩
        refine ⟨ro_s, ?_⟩
        refine TA.tk 18 524287 rfl rfl rfl (Val.buildA ar57 sz24 ze57 rfl rfl) ?_ (hro := ro_s)
        refine TA.one 19 (by kernel_rfl) ?_
        refine TO.dz 1048575 none rfl rfl rfl rfl (Does.store (i := 2) rfl rfl rfl sz57 rfl rfl (by first | exact Nat.le_of_ble_eq_true rfl | decide | omega) rfl rfl) ?_
        rintro _ _ ⟨rfl, rfl⟩
        refine ⟨ro_s, ?_⟩
        refine TA.done (by kernel_rfl) ?_
        refine AtX.join () ?_ (Sub.cons rfl (Sub.nil _)) ro_s
        trivial
       ·
        refine TO.dz 53247 (some 22) rfl rfl rfl rfl (Does.callF go80 rfl (refPut_fn _ _)) ?_
        rintro _ _ ⟨rfl, rfl⟩
        refine ⟨ro_s, ?_⟩
        refine TA.one 12 (by kernel_rfl) ?_
        refine TO.dz 57343 (some 19) rfl rfl rfl rfl (Val.does (Val.b2s (l := [2]) rfl us34 ui5 un9 rfl (.some (Rd.get (i := 1) rfl rfl)))) ?_
        rintro _ _ ⟨rfl, rfl⟩
        refine ⟨ro_s, ?_⟩
        refine TA.tk 13 65535 rfl rfl rfl (Val.addL (b := [2]) rfl rfl (by simp; omega)) ?_ (hro := ro_s)
        refine TA.tk 16 131071 rfl rfl rfl (Val.addL rfl rfl (by first | omega | (simp <;> omega))) ?_ (hro := ro_s)
        refine TA.one 17 (by kernel_rfl) ?_
        refine TO.dz 262143 (some 24) rfl rfl rfl rfl (Does.callF go78 rfl (refSip_fn k (lab ++ [2] ++ put8 n) _ (by simp; omega))) ?_
        rintro _ _ ⟨rfl, rfl⟩
        refine ⟨ro_s, ?_⟩
        refine TA.tk 18 524287 rfl rfl rfl (Val.buildA ar57 sz24 ze57 rfl rfl) ?_ (hro := ro_s)
        refine TA.one 19 (by kernel_rfl) ?_
        refine TO.dz 1048575 none rfl rfl rfl rfl (Does.store (i := 2) rfl rfl rfl sz57 rfl rfl (by first | exact Nat.le_of_ble_eq_true rfl | decide | omega) rfl rfl) ?_
        rintro _ _ ⟨rfl, rfl⟩
        refine ⟨ro_s, ?_⟩
        refine TA.done (by kernel_rfl) ?_
        refine AtX.join () ?_ (Sub.cons rfl (Sub.nil _)) ro_s
        trivial
      ·
       refine TO.dz 24319 (some 19) rfl rfl rfl rfl (Val.does (Val.b2s (l := [2]) rfl us34 ui5 un9 rfl (.some (Rd.get (i := 1) rfl rfl)))) ?_
       rintro _ _ ⟨rfl, rfl⟩
       refine ⟨ro_s, ?_⟩
       refine TA.tk 13 32511 rfl rfl rfl (Val.addL (b := [2]) rfl rfl (by simp; omega)) ?_ (hro := ro_s)
       refine TA.one 8 (by kernel_rfl) ?_
       refine TO.dz 32767 (some 15) rfl rfl rfl rfl (Does.callF go78 rfl (refSip_fn k (lab ++ [1] ++ put8 n) _ (by simp; omega))) ?_
       rintro _ _ ⟨rfl, rfl⟩
       refine ⟨ro_s, ?_⟩
       refine TA.one 15 (by kernel_rfl) ?_
       refine TO.dz 65535 (some 22) rfl rfl rfl rfl (Does.callF go80 rfl (refPut_fn _ _)) ?_
       rintro _ _ ⟨rfl, rfl⟩
       refine ⟨ro_s, ?_⟩
       refine TA.tk 16 131071 rfl rfl rfl (Val.addL rfl rfl (by first | omega | (simp <;> omega))) ?_ (hro := ro_s)
       refine TA.one 17 (by kernel_rfl) ?_
       refine TO.dz 262143 (some 24) rfl rfl rfl rfl (Does.callF go78 rfl (refSip_fn k (lab ++ [2] ++ put8 n) _ (by simp; omega))) ?_
       rintro _ _ ⟨rfl, rfl⟩
       refine ⟨ro_s, ?_⟩
       refine TA.tk 18 524287 rfl rfl rfl (Val.buildA ar57 sz24 ze57 rfl rfl) ?_ (hro := ro_s)
       refine TA.one 19 (by kernel_rfl) ?_
       refine TO.dz 1048575 none rfl rfl rfl rfl (Does.store (i := 2) rfl rfl rfl sz57 rfl rfl (by first | exact Nat.le_of_ble_eq_true rfl | decide | omega) rfl rfl) ?_
       rintro _ _ ⟨rfl, rfl⟩
       refine ⟨ro_s, ?_⟩
       refine TA.done (by kernel_rfl) ?_
       refine AtX.join () ?_ (Sub.cons rfl (Sub.nil _)) ro_s
       trivial
     ·
      refine TO.dz 24127 (some 19) rfl rfl rfl rfl (Val.does (Val.b2s (l := [2]) rfl us34 ui5 un9 rfl (.some (Rd.get (i := 1) rfl rfl)))) ?_
      rintro _ _ ⟨rfl, rfl⟩
      refine ⟨ro_s, ?_⟩
      refine TA.tk 13 32319 rfl rfl rfl (Val.addL (b := [2]) rfl rfl (by simp; omega)) ?_ (hro := ro_s)
      refine TA.one 6 (by kernel_rfl) ?_
      refine TO.dz 32383 (some 13) rfl rfl rfl rfl (Does.callF go80 rfl (refPut_fn _ _)) ?_
      rintro _ _ ⟨rfl, rfl⟩
      refine ⟨ro_s, ?_⟩
      refine TA.tk 7 32511 rfl rfl rfl (Val.addL rfl rfl (by first | omega | (simp <;> omega))) ?_ (hro := ro_s)
      refine TA.one 8 (by kernel_rfl) ?_
      refine TO.dz 32767 (some 15) rfl rfl rfl rfl (Does.callF go78 rfl (refSip_fn k (lab ++ [1] ++ put8 n) _ (by simp; omega))) ?_
      rintro _ _ ⟨rfl, rfl⟩
      refine ⟨ro_s, ?_⟩
      refine TA.one 15 (by kernel_rfl) ?_
      refine TO.dz 65535 (some 22) rfl rfl rfl rfl (Does.callF go80 rfl (refPut_fn _ _)) ?_
      rintro _ _ ⟨rfl, rfl⟩
      refine ⟨ro_s, ?_⟩
      refine TA.tk 16 131071 rfl rfl rfl (Val.addL rfl rfl (by first | omega | (simp <;> omega))) ?_ (hro := ro_s)
      refine TA.one 17 (by kernel_rfl) ?_
      refine TO.dz 262143 (some 24) rfl rfl rfl rfl (Does.callF go78 rfl (refSip_fn k (lab ++ [2] ++ put8 n) _ (by simp; omega))) ?_
      rintro _ _ ⟨rfl, rfl⟩
      refine ⟨ro_s, ?_⟩
      refine TA.tk 18 524287 rfl rfl rfl (Val.buildA ar57 sz24 ze57 rfl rfl) ?_ (hro := ro_s)
      refine TA.one 19 (by kernel_rfl) ?_
      refine TO.dz 1048575 none rfl rfl rfl rfl (Does.store (i := 2) rfl rfl rfl sz57 rfl rfl (by first | exact Nat.le_of_ble_eq_true rfl | decide | omega) rfl rfl) ?_
      rintro _ _ ⟨rfl, rfl⟩
      refine ⟨ro_s, ?_⟩
      refine TA.done (by kernel_rfl) ?_
      refine AtX.join () ?_ (Sub.cons rfl (Sub.nil _)) ro_s
      trivial
    ·
     refine TO.dz 20071 (some 13) rfl rfl rfl rfl (Does.callF go80 rfl (refPut_fn _ _)) ?_
     rintro _ _ ⟨rfl, rfl⟩
     refine ⟨ro_s, ?_⟩
     refine TA.two 3 12 (by kernel_rfl) ?_ ?_
     ·
      refine TO.dz 20079 (some 10) rfl rfl rfl rfl (Val.does (Val.b2s (l := [1]) rfl us34 ui5 un9 rfl (.some (Rd.get (i := 0) rfl rfl)))) ?_
      rintro _ _ ⟨rfl, rfl⟩
      refine ⟨ro_s, ?_⟩
      refine TA.tk 4 20095 rfl rfl rfl (Val.addL (b := [1]) rfl rfl (by simp; omega)) ?_ (hro := ro_s)
      refine TA.tk 7 20223 rfl rfl rfl (Val.addL rfl rfl (by first | omega | (simp <;> omega))) ?_ (hro := ro_s)
      refine TA.two 8 12 (by kernel_rfl) ?_ ?_
      ·
       refine TO.dz 20479 (some 15) rfl rfl rfl rfl (Does.callF go78 rfl (refSip_fn k (lab ++ [1] ++ put8 n) _ (by simp; omega))) ?_
       rintro _ _ ⟨rfl, rfl⟩
       refine ⟨ro_s, ?_⟩
       refine TA.two 12 15 (by kernel_rfl) ?_ ?_
       ·
        refine TO.dz 24575 (some 19) rfl rfl rfl rfl (Val.does (Val.b2s (l := [2]) rfl us34 ui5 un9 rfl (.some (Rd.get (i := 1) rfl rfl)))) ?_
        rintro _ _ ⟨rfl, rfl⟩
        refine ⟨ro_s, ?_⟩
        refine TA.tk 13 32767 rfl rfl rfl (Val.addL (b := [2]) rfl rfl (by simp; omega)) ?_ (hro := ro_s)
        refine TA.one 15 (by kernel_rfl) ?_
        refine TO.dz 65535 (some 22) rfl rfl rfl rfl (Does.callF go80 rfl (refPut_fn _ _)) ?_
        rintro _ _ ⟨rfl, rfl⟩
        refine ⟨ro_s, ?_⟩
        refine TA.tk 16 131071 rfl rfl rfl (Val.addL rfl rfl (by first | omega | (simp <;> omega))) ?_ (hro := ro_s)
        refine TA.one 17 (by kernel_rfl) ?_
        refine TO.dz 262143 (some 24) rfl rfl rfl rfl (Does.callF go78 rfl (refSip_fn k (lab ++ [2] ++ put8 n) _ (by simp; omega))) ?_
        rintro _ _ ⟨rfl, rfl⟩
        refine ⟨ro_s, ?_⟩
        refine TA.tk 18 524287 rfl rfl rfl (Val.buildA ar57 sz24 ze57 rfl rfl) ?_ (hro := ro_s)
        refine TA.one 19 (by kernel_rfl) ?_
        refine TO.dz 1048575 none rfl rfl rfl rfl (Does.store (i := 2) rfl rfl rfl sz57 rfl rfl (by first | exact Nat.le_of_ble_eq_true rfl | decide | omega) rfl rfl) ?_
        rintro _ _ ⟨rfl, rfl⟩
        refine ⟨ro_s, ?_⟩
        refine TA.done (by kernel_rfl) ?_
        refine AtX.join () ?_ (Sub.cons rfl (Sub.nil _)) ro_s
        trivial
       ·
        refine TO.dz 53247 (some 22) rfl rfl rfl rfl (Does.callF go80 rfl (refPut_fn _ _)) ?_
        rintro _ _ ⟨rfl, rfl⟩
        refine ⟨ro_s, ?_⟩
        refine TA.one 12 (by kernel_rfl) ?_
        refine TO.dz 57343 (some 19) rfl rfl rfl rfl (Val.does (Val.b2s (l := [2]) rfl us34 ui5 un9 rfl (.some (Rd.get (i := 1) rfl rfl)))) ?_
        rintro _ _ ⟨rfl, rfl⟩
        refine ⟨ro_s, ?_⟩
        refine TA.tk 13 65535 rfl rfl rfl (Val.addL (b := [2]) rfl rfl (by simp; omega)) ?_ (hro := ro_s)
        refine TA.tk 16 131071 rfl rfl rfl (Val.addL rfl rfl (by first | omega | (simp <;> omega))) ?_ (hro := ro_s)
        refine TA.one 17 (by kernel_rfl) ?_
        refine TO.dz 262143 (some 24) rfl rfl rfl rfl (Does.callF go78 rfl (refSip_fn k (lab ++ [2] ++ put8 n) _ (by simp; omega))) ?_
        rintro _ _ ⟨rfl, rfl⟩
        refine ⟨ro_s, ?_⟩
        refine TA.tk 18 524287 rfl rfl rfl (Val.buildA ar57 sz24 ze57 rfl rfl) ?_ (hro := ro_s)
        refine TA.one 19 (by kernel_rfl) ?_
        refine TO.dz 1048575 none rfl rfl rfl rfl (Does.store (i := 2) rfl rfl rfl sz57 rfl rfl (by first | exact Nat.le_of_ble_eq_true rfl | decide | omega) rfl rfl) ?_
        rintro _ _ ⟨rfl, rfl⟩
        refine ⟨ro_s, ?_⟩
        refine TA.done (by kernel_rfl) ?_
        refine AtX.join () ?_ (Sub.cons rfl (Sub.nil _)) ro_s
        trivial
      ·
       refine TO.dz 24319 (some 19) rfl rfl rfl rfl (Val.does (Val.b2s (l := [2]) rfl us34 ui5 un9 rfl (.some (Rd.get (i := 1) rfl rfl)))) ?_
       rintro _ _ ⟨rfl, rfl⟩
       refine ⟨ro_s, ?_⟩
       refine TA.tk 13 32511 rfl rfl rfl (Val.addL (b := [2]) rfl rfl (by simp; omega)) ?_ (hro := ro_s)
       refine TA.one 8 (by kernel_rfl) ?_
       refine TO.dz 32767 (some 15) rfl rfl rfl rfl (Does.callF go78 rfl (refSip_fn k (lab ++ [1] ++ put8 n) _ (by simp; omega))) ?_
       rintro _ _ ⟨rfl, rfl⟩
       refine ⟨ro_s, ?_⟩
       refine TA.one 15 (by kernel_rfl) ?_
       refine TO.dz 65535 (some 22) rfl rfl rfl rfl (Does.callF go80 rfl (refPut_fn _ _)) ?_
       rintro _ _ ⟨rfl, rfl⟩
       refine ⟨ro_s, ?_⟩
       refine TA.tk 16 131071 rfl rfl rfl (Val.addL rfl rfl (by first | omega | (simp <;> omega))) ?_ (hro := ro_s)
       refine TA.one 17 (by kernel_rfl) ?_
       refine TO.dz 262143 (some 24) rfl rfl rfl rfl (Does.callF go78 rfl (refSip_fn k (lab ++ [2] ++ put8 n) _ (by simp; omega))) ?_
       rintro _ _ ⟨rfl, rfl⟩
       refine ⟨ro_s, ?_⟩
       refine TA.tk 18 524287 rfl rfl rfl (Val.buildA ar57 sz24 ze57 rfl rfl) ?_ (hro := ro_s)
       refine TA.one 19 (by kernel_rfl) ?_
       refine TO.dz 1048575 none rfl rfl rfl rfl (Does.store (i := 2) rfl rfl rfl sz57 rfl rfl (by first | exact Nat.le_of_ble_eq_true rfl | decide | omega) rfl rfl) ?_
       rintro _ _ ⟨rfl, rfl⟩
       refine ⟨ro_s, ?_⟩
       refine TA.done (by kernel_rfl) ?_
       refine AtX.join () ?_ (Sub.cons rfl (Sub.nil _)) ro_s
       trivial
     ·
      refine TO.dz 24167 (some 19) rfl rfl rfl rfl (Val.does (Val.b2s (l := [2]) rfl us34 ui5 un9 rfl (.some (Rd.get (i := 1) rfl rfl)))) ?_
      rintro _ _ ⟨rfl, rfl⟩
      refine ⟨ro_s, ?_⟩
      refine TA.tk 13 32359 rfl rfl rfl (Val.addL (b := [2]) rfl rfl (by simp; omega)) ?_ (hro := ro_s)
      refine TA.one 3 (by kernel_rfl) ?_
      refine TO.dz 32367 (some 10) rfl rfl rfl rfl (Val.does (Val.b2s (l := [1]) rfl us34 ui5 un9 rfl (.some (Rd.get (i := 0) rfl rfl)))) ?_
      rintro _ _ ⟨rfl, rfl⟩
      refine ⟨ro_s, ?_⟩
      refine TA.tk 4 32383 rfl rfl rfl (Val.addL (b := [1]) rfl rfl (by simp; omega)) ?_ (hro := ro_s)
      refine TA.tk 7 32511 rfl rfl rfl (Val.addL rfl rfl (by first | omega | (simp <;> omega))) ?_ (hro := ro_s)
      refine TA.one 8 (by kernel_rfl) ?_
      refine TO.dz 32767 (some 15) rfl rfl rfl rfl (Does.callF go78 rfl (refSip_fn k (lab ++ [1] ++ put8 n) _ (by simp; omega))) ?_
      rintro _ _ ⟨rfl, rfl⟩
      refine ⟨ro_s, ?_⟩
      refine TA.one 15 (by kernel_rfl) ?_
      refine TO.dz 65535 (some 22) rfl rfl rfl rfl (Does.callF go80 rfl (refPut_fn _ _)) ?_
      rintro _ _ ⟨rfl, rfl⟩
      refine ⟨ro_s, ?_⟩
      refine TA.tk 16 131071 rfl rfl rfl (Val.addL rfl rfl (by first | omega | (simp <;> omega))) ?_ (hro := ro_s)
      refine TA.one 17 (by kernel_rfl) ?_
      refine TO.dz 262143 (some 24) rfl rfl rfl rfl (Does.callF go78 rfl (refSip_fn k (lab ++ [2] ++ put8 n) _ (by simp; omega))) ?_
      rintro _ _ ⟨rfl, rfl⟩
      refine ⟨ro_s, ?_⟩
      refine TA.tk 18 524287 rfl rfl rfl (Val.buildA ar57 sz24 ze57 rfl rfl) ?_ (hro := ro_s)
      refine TA.one 19 (by kernel_rfl) ?_
      refine TO.dz 1048575 none rfl rfl rfl rfl (Does.store (i := 2) rfl rfl rfl sz57 rfl rfl (by first | exact Nat.le_of_ble_eq_true rfl | decide | omega) rfl rfl) ?_
      rintro _ _ ⟨rfl, rfl⟩
      refine ⟨ro_s, ?_⟩
      refine TA.done (by kernel_rfl) ?_
      refine AtX.join () ?_ (Sub.cons rfl (Sub.nil _)) ro_s
      trivial
    ·
     refine TO.dz 24103 (some 19) rfl rfl rfl rfl (Val.does (Val.b2s (l := [2]) rfl us34 ui5 un9 rfl (.some (Rd.get (i := 1) rfl rfl)))) ?_
     rintro _ _ ⟨rfl, rfl⟩
     refine ⟨ro_s, ?_⟩
     refine TA.tk 13 32295 rfl rfl rfl (Val.addL (b := [2]) rfl rfl (by simp; omega)) ?_ (hro := ro_s)
     refine TA.two 3 6 (by kernel_rfl) ?_ ?_
     ·
      refine TO.dz 32303 (some 10) rfl rfl rfl rfl (Val.does (Val.b2s (l := [1]) rfl us34 ui5 un9 rfl (.some (Rd.get (i := 0) rfl rfl)))) ?_
      rintro _ _ ⟨rfl, rfl⟩
      refine ⟨ro_s, ?_⟩
      refine TA.tk 4 32319 rfl rfl rfl (Val.addL (b := [1]) rfl rfl (by simp; omega)) ?_ (hro := ro_s)
      refine TA.one 6 (by kernel_rfl) ?_
      refine TO.dz 32383 (some 13) rfl rfl rfl rfl (Does.callF go80 rfl (refPut_fn _ _)) ?_
      rintro _ _ ⟨rfl, rfl⟩
      refine ⟨ro_s, ?_⟩
      refine TA.tk 7 32511 rfl rfl rfl (Val.addL rfl rfl (by first | omega | (simp <;> omega))) ?_ (hro := ro_s)
      refine TA.one 8 (by kernel_rfl) ?_
      refine TO.dz 32767 (some 15) rfl rfl rfl rfl (Does.callF go78 rfl (refSip_fn k (lab ++ [1] ++ put8 n) _ (by simp; omega))) ?_
      rintro _ _ ⟨rfl, rfl⟩
      refine ⟨ro_s, ?_⟩
      refine TA.one 15 (by kernel_rfl) ?_
      refine TO.dz 65535 (some 22) rfl rfl rfl rfl (Does.callF go80 rfl (refPut_fn _ _)) ?_
      rintro _ _ ⟨rfl, rfl⟩
      refine ⟨ro_s, ?_⟩
      refine TA.tk 16 131071 rfl rfl rfl (Val.addL rfl rfl (by first | omega | (simp <;> omega))) ?_ (hro := ro_s)
      refine TA.one 17 (by kernel_rfl) ?_
      refine TO.dz 262143 (some 24) rfl rfl rfl rfl (Does.callF go78 rfl (refSip_fn k (lab ++ [2] ++ put8 n) _ (by simp; omega))) ?_
      rintro _ _ ⟨rfl, rfl⟩
      refine ⟨ro_s, ?_⟩
      refine TA.tk 18 524287 rfl rfl rfl (Val.buildA ar57 sz24 ze57 rfl rfl) ?_ (hro := ro_s)
      refine TA.one 19 (by kernel_rfl) ?_
      refine TO.dz 1048575 none rfl rfl rfl rfl (Does.store (i := 2) rfl rfl rfl sz57 rfl rfl (by first | exact Nat.le_of_ble_eq_true rfl | decide | omega) rfl rfl) ?_
      rintro _ _ ⟨rfl, rfl⟩
      refine ⟨ro_s, ?_⟩
      refine TA.done (by kernel_rfl) ?_
      refine AtX.join () ?_ (Sub.cons rfl (Sub.nil _)) ro_s
      trivial
     ·
      refine TO.dz 32359 (some 13) rfl rfl rfl rfl (Does.callF go80 rfl (refPut_fn _ _)) ?_
      rintro _ _ ⟨rfl, rfl⟩
      refine ⟨ro_s, ?_⟩
      refine TA.one 3 (by kernel_rfl) ?_
      refine TO.dz 32367 (some 10) rfl rfl rfl rfl (Val.does (Val.b2s (l := [1]) rfl us34 ui5 un9 rfl (.some (Rd.get (i := 0) rfl rfl)))) ?_
      rintro _ _ ⟨rfl, rfl⟩
      refine ⟨ro_s, ?_⟩
      refine TA.tk 4 32383 rfl rfl rfl (Val.addL (b := [1]) rfl rfl (by simp; omega)) ?_ (hro := ro_s)
      refine TA.tk 7 32511 rfl rfl rfl (Val.addL rfl rfl (by first | omega | (simp <;> omega))) ?_ (hro := ro_s)
      refine TA.one 8 (by kernel_rfl) ?_
      refine TO.dz 32767 (some 15) rfl rfl rfl rfl (Does.callF go78 rfl (refSip_fn k (lab ++ [1] ++ put8 n) _ (by simp; omega))) ?_
      rintro _ _ ⟨rfl, rfl⟩
      refine ⟨ro_s, ?_⟩
      refine TA.one 15 (by kernel_rfl) ?_
      refine TO.dz 65535 (some 22) rfl rfl rfl rfl (Does.callF go80 rfl (refPut_fn _ _)) ?_
      rintro _ _ ⟨rfl, rfl⟩
      refine ⟨ro_s, ?_⟩
      refine TA.tk 16 131071 rfl rfl rfl (Val.addL rfl rfl (by first | omega | (simp <;> omega))) ?_ (hro := ro_s)
      refine TA.one 17 (by kernel_rfl) ?_
      refine TO.dz 262143 (some 24) rfl rfl rfl rfl (Does.callF go78 rfl (refSip_fn k (lab ++ [2] ++ put8 n) _ (by simp; omega))) ?_
      rintro _ _ ⟨rfl, rfl⟩
      refine ⟨ro_s, ?_⟩
      refine TA.tk 18 524287 rfl rfl rfl (Val.buildA ar57 sz24 ze57 rfl rfl) ?_ (hro := ro_s)
      refine TA.one 19 (by kernel_rfl) ?_
      refine TO.dz 1048575 none rfl rfl rfl rfl (Does.store (i := 2) rfl rfl rfl sz57 rfl rfl (by first | exact Nat.le_of_ble_eq_true rfl | decide | omega) rfl rfl) ?_
      rintro _ _ ⟨rfl, rfl⟩
      refine ⟨ro_s, ?_⟩
      refine TA.done (by kernel_rfl) ?_
      refine AtX.join () ?_ (Sub.cons rfl (Sub.nil _)) ro_s
      trivial
   ·
    refine TO.dz 20067 (some 13) rfl rfl rfl rfl (Does.callF go80 rfl (refPut_fn _ _)) ?_
    rintro _ _ ⟨rfl, rfl⟩
    refine ⟨ro_s, ?_⟩
    refine TA.two 2 12 (by kernel_rfl) ?_ ?_
    ·
     refine TO.dz 20071 (some 9) rfl rfl rfl rfl (Does.buildSlice sl34 sz5 ze5 (by decide) (by decide) rfl rfl rfl) ?_
     rintro _ _ ⟨b93, rfl, rfl⟩
     refine ⟨ro_s, ?_⟩
     refine TA.two 3 12 (by kernel_rfl) ?_ ?_
     ·
      refine TO.dz 20079 (some 10) rfl rfl rfl rfl (Val.does (Val.b2s (l := [1]) rfl us34 ui5 un9 rfl (.some (Rd.get (i := 0) rfl rfl)))) ?_
      rintro _ _ ⟨rfl, rfl⟩
      refine ⟨ro_s, ?_⟩
      refine TA.tk 4 20095 rfl rfl rfl (Val.addL (b := [1]) rfl rfl (by simp; omega)) ?_ (hro := ro_s)
      refine TA.tk 7 20223 rfl rfl rfl (Val.addL rfl rfl (by first | omega | (simp <;> omega))) ?_ (hro := ro_s)
      refine TA.two 8 12 (by kernel_rfl) ?_ ?_
      ·
       refine TO.dz 20479 (some 15) rfl rfl rfl rfl (Does.callF go78 rfl (refSip_fn k (lab ++ [1] ++ put8 n) _ (by simp; omega))) ?_
       rintro _ _ ⟨rfl, rfl⟩
       refine ⟨ro_s, ?_⟩
       refine TA.two 12 15 (by kernel_rfl) ?_ ?_
       ·
        refine TO.dz 24575 (some 19) rfl rfl rfl rfl (Val.does (Val.b2s (l := [2]) rfl us34 ui5 un9 rfl (.some (Rd.get (i := 1) rfl rfl)))) ?_
        rintro _ _ ⟨rfl, rfl⟩
        refine ⟨ro_s, ?_⟩
        refine TA.tk 13 32767 rfl rfl rfl (Val.addL (b := [2]) rfl rfl (by simp; omega)) ?_ (hro := ro_s)
        refine TA.one 15 (by kernel_rfl) ?_
        refine TO.dz 65535 (some 22) rfl rfl rfl rfl (Does.callF go80 rfl (refPut_fn _ _)) ?_
        rintro _ _ ⟨rfl, rfl⟩
        refine ⟨ro_s, ?_⟩
        refine TA.tk 16 131071 rfl rfl rfl (Val.addL rfl rfl (by first | omega | (simp <;> omega))) ?_ (hro := ro_s)
        refine TA.one 17 (by kernel_rfl) ?_
        refine TO.dz 262143 (some 24) rfl rfl rfl rfl (Does.callF go78 rfl (refSip_fn k (lab ++ [2] ++ put8 n) _ (by simp; omega))) ?_
        rintro _ _ ⟨rfl, rfl⟩
        refine ⟨ro_s, ?_⟩
        refine TA.tk 18 524287 rfl rfl rfl (Val.buildA ar57 sz24 ze57 rfl rfl) ?_ (hro := ro_s)
        refine TA.one 19 (by kernel_rfl) ?_
        refine TO.dz 1048575 none rfl rfl rfl rfl (Does.store (i := 2) rfl rfl rfl sz57 rfl rfl (by first | exact Nat.le_of_ble_eq_true rfl | decide | omega) rfl rfl) ?_
        rintro _ _ ⟨rfl, rfl⟩
        refine ⟨ro_s, ?_⟩
        refine TA.done (by kernel_rfl) ?_
        refine AtX.join () ?_ (Sub.cons rfl (Sub.nil _)) ro_s
        trivial
       ·
        refine TO.dz 53247 (some 22) rfl rfl rfl rfl (Does.callF go80 rfl (refPut_fn _ _)) ?_
        rintro _ _ ⟨rfl, rfl⟩
        refine ⟨ro_s, ?_⟩
        refine TA.one 12 (by kernel_rfl) ?_
        refine TO.dz 57343 (some 19) rfl rfl rfl rfl (Val.does (Val.b2s (l := [2]) rfl us34 ui5 un9 rfl (.some (Rd.get (i := 1) rfl rfl)))) ?_
        rintro _ _ ⟨rfl, rfl⟩
        refine ⟨ro_s, ?_⟩
        refine TA.tk 13 65535 rfl rfl rfl (Val.addL (b := [2]) rfl rfl (by simp; omega)) ?_ (hro := ro_s)
        refine TA.tk 16 131071 rfl rfl rfl (Val.addL rfl rfl (by first | omega | (simp <;> omega))) ?_ (hro := ro_s)
        refine TA.one 17 (by kernel_rfl) ?_
        refine TO.dz 262143 (some 24) rfl rfl rfl rfl (Does.callF go78 rfl (refSip_fn k (lab ++ [2] ++ put8 n) _ (by simp; omega))) ?_
        rintro _ _ ⟨rfl, rfl⟩
        refine ⟨ro_s, ?_⟩
        refine TA.tk 18 524287 rfl rfl rfl (Val.buildA ar57 sz24 ze57 rfl rfl) ?_ (hro := ro_s)
        refine TA.one 19 (by kernel_rfl) ?_
        refine TO.dz 1048575 none rfl rfl rfl rfl (Does.store (i := 2) rfl rfl rfl sz57 rfl rfl (by first | exact Nat.le_of_ble_eq_true rfl | decide | omega) rfl rfl) ?_
        rintro _ _ ⟨rfl, rfl⟩
        refine ⟨ro_s, ?_⟩
        refine TA.done (by kernel_rfl) ?_
        refine AtX.join () ?_ (Sub.cons rfl (Sub.nil _)) ro_s
        trivial
      ·
       refine TO.dz 24319 (some 19) rfl rfl rfl rfl (Val.does (Val.b2s (l := [2]) rfl us34 ui5 un9 rfl (.some (Rd.get (i := 1) rfl rfl)))) ?_
       rintro _ _ ⟨rfl, rfl⟩
       refine ⟨ro_s, ?_⟩
       refine TA.tk 13 32511 rfl rfl rfl (Val.addL (b := [2]) rfl rfl (by simp; omega)) ?_ (hro := ro_s)
       refine TA.one 8 (by kernel_rfl) ?_
       refine TO.dz 32767 (some 15) rfl rfl rfl rfl (Does.callF go78 rfl (refSip_fn k (lab ++ [1] ++ put8 n) _ (by simp; omega))) ?_
       rintro _ _ ⟨rfl, rfl⟩
       refine ⟨ro_s, ?_⟩
       refine TA.one 15 (by kernel_rfl) ?_
       refine TO.dz 65535 (some 22) rfl rfl rfl rfl (Does.callF go80 rfl (refPut_fn _ _)) ?_
       rintro _ _ ⟨rfl, rfl⟩
       refine ⟨ro_s, ?_⟩
       refine TA.tk 16 131071 rfl rfl rfl (Val.addL rfl rfl (by first | omega | (simp <;> omega))) ?_ (hro := ro_s)
       refine TA.one 17 (by kernel_rfl) ?_
       refine TO.dz 262143 (some 24) rfl rfl rfl rfl (Does.callF go78 rfl (refSip_fn k (lab ++ [2] ++ put8 n) _ (by simp; omega))) ?_
       rintro _ _ ⟨rfl, rfl⟩
       refine ⟨ro_s, ?_⟩
       refine TA.tk 18 524287 rfl rfl rfl (Val.buildA ar57 sz24 ze57 rfl rfl) ?_ (hro := ro_s)
       refine TA.one 19 (by kernel_rfl) ?_
       refine TO.dz 1048575 none rfl rfl rfl rfl (Does.store (i := 2) rfl rfl rfl sz57 rfl rfl (by first | exact Nat.le_of_ble_eq_true rfl | decide | omega) rfl rfl) ?_
       rintro _ _ ⟨rfl, rfl⟩
       refine ⟨ro_s, ?_⟩
       refine TA.done (by kernel_rfl) ?_
       refine AtX.join () ?_ (Sub.cons rfl (Sub.nil _)) ro_s
       trivial
     ·
      refine TO.dz 24167 (some 19) rfl rfl rfl rfl (Val.does (Val.b2s (l := [2]) rfl us34 ui5 un9 rfl (.some (Rd.get (i := 1) rfl rfl)))) ?_
      rintro _ _ ⟨rfl, rfl⟩
      refine ⟨ro_s, ?_⟩
      refine TA.tk 13 32359 rfl rfl rfl (Val.addL (b := [2]) rfl rfl (by simp; omega)) ?_ (hro := ro_s)
      refine TA.one 3 (by kernel_rfl) ?_
      refine TO.dz 32367 (some 10) rfl rfl rfl rfl (Val.does (Val.b2s (l := [1]) rfl us34 ui5 un9 rfl (.some (Rd.get (i := 0) rfl rfl)))) ?_
      rintro _ _ ⟨rfl, rfl⟩
      refine ⟨ro_s, ?_⟩
      refine TA.tk 4 32383 rfl rfl rfl (Val.addL (b := [1]) rfl rfl (by simp; omega)) ?_ (hro := ro_s)
      refine TA.tk 7 32511 rfl rfl rfl (Val.addL rfl rfl (by first | omega | (simp <;> omega))) ?_ (hro := ro_s)
      refine TA.one 8 (by kernel_rfl) ?_
      refine TO.dz 32767 (some 15) rfl rfl rfl rfl (Does.callF go78 rfl (refSip_fn k (lab ++ [1] ++ put8 n) _ (by simp; omega))) ?_
      rintro _ _ ⟨rfl, rfl⟩
      refine ⟨ro_s, ?_⟩
      refine TA.one 15 (by kernel_rfl) ?_
      refine TO.dz 65535 (some 22) rfl rfl rfl rfl (Does.callF go80 rfl (refPut_fn _ _)) ?_
      rintro _ _ ⟨rfl, rfl⟩
      refine ⟨ro_s, ?_⟩
      refine TA.tk 16 131071 rfl rfl rfl (Val.addL rfl rfl (by first | omega | (simp <;> omega))) ?_ (hro := ro_s)
      refine TA.one 17 (by kernel_rfl) ?_
      refine TO.dz 262143 (some 24) rfl rfl rfl rfl (Does.callF go78 rfl (refSip_fn k (lab ++ [2] ++ put8 n) _ (by simp; omega))) ?_
      rintro _ _ ⟨rfl, rfl⟩
      refine ⟨ro_s, ?_⟩
      refine TA.tk 18 524287 rfl rfl rfl (Val.buildA ar57 sz24 ze57 rfl rfl) ?_ (hro := ro_s)
      refine TA.one 19 (by kernel_rfl) ?_
      refine TO.dz 1048575 none rfl rfl rfl rfl (Does.store (i := 2) rfl rfl rfl sz57 rfl rfl (by first | exact Nat.le_of_ble_eq_true rfl | decide | omega) rfl rfl) ?_
      rintro _ _ ⟨rfl, rfl⟩
      refine ⟨ro_s, ?_⟩
      refine TA.done (by kernel_rfl) ?_
      refine AtX.join () ?_ (Sub.cons rfl (Sub.nil _)) ro_s
      trivial
    ·
     refine TO.dz 24163 (some 19) rfl rfl rfl rfl (Val.does (Val.b2s (l := [2]) rfl us34 ui5 un9 rfl (.some (Rd.get (i := 0) rfl rfl)))) ?_
     rintro _ _ ⟨rfl, rfl⟩
     refine ⟨ro_s, ?_⟩
     refine TA.tk 13 32355 rfl rfl rfl (Val.addL (b := [2]) rfl rfl (by simp; omega)) ?_ (hro := ro_s)
     refine TA.one 2 (by kernel_rfl) ?_
     refine TO.dz 32359 (some 9) rfl rfl rfl rfl (Does.buildSlice sl34 sz5 ze5 (by decide) (by decide) rfl rfl rfl) ?_
     rintro _ _ ⟨b98, rfl, rfl⟩
     refine ⟨ro_s, ?_⟩
     refine TA.one 3 (by kernel_rfl) ?_
     refine TO.dz 32367 (some 10) rfl rfl rfl rfl (Val.does (Val.b2s (l := [1]) rfl us34 ui5 un9 rfl (.some (Rd.get (i := 0) rfl rfl)))) ?_
     rintro _ _ ⟨rfl, rfl⟩
     refine ⟨ro_s, ?_⟩
     refine TA.tk 4 32383 rfl rfl rfl (Val.addL (b := [1]) rfl rfl (by simp; omega)) ?_ (hro := ro_s)
     refine TA.tk 7 32511 rfl rfl rfl (Val.addL rfl rfl (by first | omega | (simp <;> omega))) ?_ (hro := ro_s)
     refine TA.one 8 (by kernel_rfl) ?_
     refine TO.dz 32767 (some 15) rfl rfl rfl rfl (Does.callF go78 rfl (refSip_fn k (lab ++ [1] ++ put8 n) _ (by simp; omega))) ?_
     rintro _ _ ⟨rfl, rfl⟩
     refine ⟨ro_s, ?_⟩
     refine TA.one 15 (by kernel_rfl) ?_
     refine TO.dz 65535 (some 22) rfl rfl rfl rfl (Does.callF go80 rfl (refPut_fn _ _)) ?_
     rintro _ _ ⟨rfl, rfl⟩
     refine ⟨ro_s, ?_⟩
     refine TA.tk 16 131071 rfl rfl rfl (Val.addL rfl rfl (by first | omega | (simp <;> omega))) ?_ (hro := ro_s)
     refine TA.one 17 (by kernel_rfl) ?_
     refine TO.dz 262143 (some 24) rfl rfl rfl rfl (Does.callF go78 rfl (refSip_fn k (lab ++ [2] ++ put8 n) _ (by simp; omega))) ?_
     rintro _ _ ⟨rfl, rfl⟩
     refine ⟨ro_s, ?_⟩
     refine TA.tk 18 524287 rfl rfl rfl (Val.buildA ar57 sz24 ze57 rfl rfl) ?_ (hro := ro_s)
     refine TA.one 19 (by kernel_rfl) ?_
     refine TO.dz 1048575 none rfl rfl rfl rfl (Does.store (i := 2) rfl rfl rfl sz57 rfl rfl (by first | exact Nat.le_of_ble_eq_true rfl | decide | omega) rfl rfl) ?_
     rintro _ _ ⟨rfl, rfl⟩
     refine ⟨ro_s, ?_⟩
     refine TA.done (by kernel_rfl) ?_
     refine AtX.join () ?_ (Sub.cons rfl (Sub.nil _)) ro_s
     trivial
   ·
    refine TO.dz 24099 (some 19) rfl rfl rfl rfl (Val.does (Val.b2s (l := [2]) rfl us34 ui5 un9 rfl (.some (Rd.get (i := 0) rfl rfl)))) ?_
    rintro _ _ ⟨rfl, rfl⟩
    refine ⟨ro_s, ?_⟩
    refine TA.tk 13 32291 rfl rfl rfl (Val.addL (b := [2]) rfl rfl (by simp; omega)) ?_ (hro := ro_s)
    refine TA.two 2 6 (by kernel_rfl) ?_ ?_
    ·
     refine TO.dz 32295 (some 9) rfl rfl rfl rfl (Does.buildSlice sl34 sz5 ze5 (by decide) (by decide) rfl rfl rfl) ?_
     rintro _ _ ⟨b100, rfl, rfl⟩
     refine ⟨ro_s, ?_⟩
     refine TA.two 3 6 (by kernel_rfl) ?_ ?_
     ·
      refine TO.dz 32303 (some 10) rfl rfl rfl rfl (Val.does (Val.b2s (l := [1]) rfl us34 ui5 un9 rfl (.some (Rd.get (i := 0) rfl rfl)))) ?_
      rintro _ _ ⟨rfl, rfl⟩
      refine ⟨ro_s, ?_⟩
      refine TA.tk 4 32319 rfl rfl rfl (Val.addL (b := [1]) rfl rfl (by simp; omega)) ?_ (hro := ro_s)
      refine TA.one 6 (by kernel_rfl) ?_
      refine TO.dz 32383 (some 13) rfl rfl rfl rfl (Does.callF go80 rfl (refPut_fn _ _)) ?_
      rintro _ _ ⟨rfl, rfl⟩
      refine ⟨ro_s, ?_⟩
      refine TA.tk 7 32511 rfl rfl rfl (Val.addL rfl rfl (by first | omega | (simp <;> omega))) ?_ (hro := ro_s)
      refine TA.one 8 (by kernel_rfl) ?_
      refine TO.dz 32767 (some 15) rfl rfl rfl rfl (Does.callF go78 rfl (refSip_fn k (lab ++ [1] ++ put8 n) _ (by simp; omega))) ?_
      rintro _ _ ⟨rfl, rfl⟩
      refine ⟨ro_s, ?_⟩
      refine TA.one 15 (by kernel_rfl) ?_
      refine TO.dz 65535 (some 22) rfl rfl rfl rfl (Does.callF go80 rfl (refPut_fn _ _)) ?_
      rintro _ _ ⟨rfl, rfl⟩
      refine ⟨ro_s, ?_⟩
      refine TA.tk 16 131071 rfl rfl rfl (Val.addL rfl rfl (by first | omega | (simp <;> omega))) ?_ (hro := ro_s)
      refine TA.one 17 (by kernel_rfl) ?_
      refine TO.dz 262143 (some 24) rfl rfl rfl rfl (Does.callF go78 rfl (refSip_fn k (lab ++ [2] ++ put8 n) _ (by simp; omega))) ?_
      rintro _ _ ⟨rfl, rfl⟩
      refine ⟨ro_s, ?_⟩
      refine TA.tk 18 524287 rfl rfl rfl (Val.buildA ar57 sz24 ze57 rfl rfl) ?_ (hro := ro_s)
      refine TA.one 19 (by kernel_rfl) ?_
      refine TO.dz 1048575 none rfl rfl rfl rfl (Does.store (i := 2) rfl rfl rfl sz57 rfl rfl (by first | exact Nat.le_of_ble_eq_true rfl | decide | omega) rfl rfl) ?_
      rintro _ _ ⟨rfl, rfl⟩
      refine ⟨ro_s, ?_⟩
      refine TA.done (by kernel_rfl) ?_
      refine AtX.join () ?_ (Sub.cons rfl (Sub.nil _)) ro_s
      trivial
     ·
      refine TO.dz 32359 (some 13) rfl rfl rfl rfl (Does.callF go80 rfl (refPut_fn _ _)) ?_
      rintro _ _ ⟨rfl, rfl⟩
      refine ⟨ro_s, ?_⟩
      refine TA.one 3 (by kernel_rfl) ?_
      refine TO.dz 32367 (some 10) rfl rfl rfl rfl (Val.does (Val.b2s (l := [1]) rfl us34 ui5 un9 rfl (.some (Rd.get (i := 0) rfl rfl)))) ?_
      rintro _ _ ⟨rfl, rfl⟩
      refine ⟨ro_s, ?_⟩
      refine TA.tk 4 32383 rfl rfl rfl (Val.addL (b := [1]) rfl rfl (by simp; omega)) ?_ (hro := ro_s)
      refine TA.tk 7 32511 rfl rfl rfl (Val.addL rfl rfl (by first | omega | (simp <;> omega))) ?_ (hro := ro_s)
      refine TA.one 8 (by kernel_rfl) ?_
      refine TO.dz 32767 (some 15) rfl rfl rfl rfl (Does.callF go78 rfl (refSip_fn k (lab ++ [1] ++ put8 n) _ (by simp; omega))) ?_
      rintro _ _ ⟨rfl, rfl⟩
      refine ⟨ro_s, ?_⟩
      refine TA.one 15 (by kernel_rfl) ?_
      refine TO.dz 65535 (some 22) rfl rfl rfl rfl (Does.callF go80 rfl (refPut_fn _ _)) ?_
      rintro _ _ ⟨rfl, rfl⟩
      refine ⟨ro_s, ?_⟩
      refine TA.tk 16 131071 rfl rfl rfl (Val.addL rfl rfl (by first | omega | (simp <;> omega))) ?_ (hro := ro_s)
      refine TA.one 17 (by kernel_rfl) ?_
      refine TO.dz 262143 (some 24) rfl rfl rfl rfl (Does.callF go78 rfl (refSip_fn k (lab ++ [2] ++ put8 n) _ (by simp; omega))) ?_
      rintro _ _ ⟨rfl, rfl⟩
      refine ⟨ro_s, ?_⟩
      refine TA.tk 18 524287 rfl rfl rfl (Val.buildA ar57 sz24 ze57 rfl rfl) ?_ (hro := ro_s)
      refine TA.one 19 (by kernel_rfl) ?_
      refine TO.dz 1048575 none rfl rfl rfl rfl (Does.store (i := 2) rfl rfl rfl sz57 rfl rfl (by first | exact Nat.le_of_ble_eq_true rfl | decide | omega) rfl rfl) ?_
      rintro _ _ ⟨rfl, rfl⟩
      refine ⟨ro_s, ?_⟩
      refine TA.done (by kernel_rfl) ?_
      refine AtX.join () ?_ (Sub.cons rfl (Sub.nil _)) ro_s
      trivial
    ·
     refine TO.dz 32355 (some 13) rfl rfl rfl rfl (Does.callF go80 rfl (refPut_fn _ _)) ?_
     rintro _ _ ⟨rfl, rfl⟩
     refine ⟨ro_s, ?_⟩
     refine TA.one 2 (by kernel_rfl) ?_
     refine TO.dz 32359 (some 9) rfl rfl rfl rfl (Does.buildSlice sl34 sz5 ze5 (by decide) (by decide) rfl rfl rfl) ?_
     rintro _ _ ⟨b106, rfl, rfl⟩
     refine ⟨ro_s, ?_⟩
     refine TA.one 3 (by kernel_rfl) ?_
     refine TO.dz 32367 (some 10) rfl rfl rfl rfl (Val.does (Val.b2s (l := [1]) rfl us34 ui5 un9 rfl (.some (Rd.get (i := 0) rfl rfl)))) ?_
     rintro _ _ ⟨rfl, rfl⟩
     refine ⟨ro_s, ?_⟩
     refine TA.tk 4 32383 rfl rfl rfl (Val.addL (b := [1]) rfl rfl (by simp; omega)) ?_ (hro := ro_s)
     refine TA.tk 7 32511 rfl rfl rfl (Val.addL rfl rfl (by first | omega | (simp <;> omega))) ?_ (hro := ro_s)
     refine TA.one 8 (by kernel_rfl) ?_
     refine TO.dz 32767 (some 15) rfl rfl rfl rfl (Does.callF go78 rfl (refSip_fn k (lab ++ [1] ++ put8 n) _ (by simp; omega))) ?_
     rintro _ _ ⟨rfl, rfl⟩
     refine ⟨ro_s, ?_⟩
     refine TA.one 15 (by kernel_rfl) ?_
     refine TO.dz 65535 (some 22) rfl rfl rfl rfl (Does.callF go80 rfl (refPut_fn _ _)) ?_
     rintro _ _ ⟨rfl, rfl⟩
     refine ⟨ro_s, ?_⟩
     refine TA.tk 16 131071 rfl rfl rfl (Val.addL rfl rfl (by first | omega | (simp <;> omega))) ?_ (hro := ro_s)
     refine TA.one 17 (by kernel_rfl) ?_
     refine TO.dz 262143 (some 24) rfl rfl rfl rfl (Does.callF go78 rfl (refSip_fn k (lab ++ [2] ++ put8 n) _ (by simp; omega))) ?_
     rintro _ _ ⟨rfl, rfl⟩
     refine ⟨ro_s, ?_⟩
     refine TA.tk 18 524287 rfl rfl rfl (Val.buildA ar57 sz24 ze57 rfl rfl) ?_ (hro := ro_s)
     refine TA.one 19 (by kernel_rfl) ?_
     refine TO.dz 1048575 none rfl rfl rfl rfl (Does.store (i := 2) rfl rfl rfl sz57 rfl rfl (by first | exact Nat.le_of_ble_eq_true rfl | decide | omega) rfl rfl) ?_
     rintro _ _ ⟨rfl, rfl⟩
     refine ⟨ro_s, ?_⟩
     refine TA.done (by kernel_rfl) ?_
     refine AtX.join () ?_ (Sub.cons rfl (Sub.nil _)) ro_s
     trivial
 ·
  intro _ _
  refine TC.r1 (M' := M) (fn := Tryz.f50) (fun _ _ h => h) rfl (RV.agg (i := 0) rfl ag57 sz57 rfl rfl rfl) ?_
  exact ⟨rfl, rfl⟩

/-- quorumite/quorumiteref1.Root -/
theorem refRoot_fn (s : Int) (M : Hp) : FnC Tryz.prog 51 #[.int .u64 s] M (fun v M' => v = .agg #[.int .u64 (rootK s).a, .int .u64 (rootK s).b] ∧ M = M') := by
 refine FnC.intro Tryz.func51 rfl 8 rfl (by simp) (fun z => ?_)
 refine TC.en (E' := [(0, _)]) ?_
 refine TC.sr ?_
 refine TL.d (Does.alloc ze57 rfl) ?_
 rintro _ _ ⟨b1, rfl, rfl⟩
 refine TL.nt ?_
 refine TC.sr ?_
 refine TL.v (Val.move rfl) ?_
 refine TL.v (Val.move rfl) ?_
 refine TL.v (Val.add rfl rfl (r := add64 s 1) rfl) ?_
 refine TL.v (Val.buildA ar57 sz24 ze57 rfl rfl) ?_
 refine TL.d (Does.callF go50 rfl (refDerive_fn ⟨s, add64 s 1⟩ [114, 111, 111, 116] 0 _ (by decide))) ?_
 rintro _ _ ⟨rfl, rfl⟩
 refine TL.d (Does.store (i := 0) rfl rfl rfl sz57 rfl rfl (by first | exact Nat.le_of_ble_eq_true rfl | decide | omega) rfl rfl) ?_
 rintro _ _ ⟨rfl, rfl⟩
 refine TL.nt ?_
 refine TC.r1 (M' := M) (fn := Tryz.f51) (fun _ _ h => h) rfl (RV.agg (i := 0) rfl ag57 sz57 rfl rfl rfl) ?_
 exact ⟨rfl, rfl⟩

/-- quorumite/quorumiteref1.Of -/
theorem refOf_fn (s who gen : Int) (M : Hp) : FnC Tryz.prog 17 #[.int .u64 s, .int .i64 who, .int .i64 gen] M (fun v M' => v = .agg #[.int .u64 (macKey s who gen).a, .int .u64 (macKey s who gen).b] ∧ M = M') := by
 refine FnC.intro Tryz.func17 rfl 15 rfl (by simp) (fun z => ?_)
 refine TC.en (E' := [(0, _), (1, _), (2, _)]) ?_
 refine TC.sr ?_
 refine TL.d (Does.alloc ze57 rfl) ?_
 rintro _ _ ⟨b1, rfl, rfl⟩
 refine TL.nt ?_
 refine TC.sr ?_
 refine TL.v (Val.move rfl) ?_
 refine TL.d (Does.callF go51 rfl (refRoot_fn s _)) ?_
 rintro _ _ ⟨rfl, rfl⟩
 refine TL.v (Val.move rfl) ?_
 refine TL.v (Val.convI rfl iu3 in24 rfl) ?_
 refine TL.d (Does.callF go50 rfl (refDerive_fn (rootK s) [119, 104, 111] (IntKind.u64.wrap who) _ (by decide))) ?_
 rintro _ _ ⟨rfl, rfl⟩
 refine TL.v (Val.move rfl) ?_
 refine TL.v (Val.convI rfl iu3 in24 rfl) ?_
 refine TL.d (Does.callF go50 rfl (refDerive_fn (deriveK (rootK s) [119, 104, 111] (IntKind.u64.wrap who)) [103, 101, 110] (IntKind.u64.wrap gen) _ (by decide))) ?_
 rintro _ _ ⟨rfl, rfl⟩
 refine TL.d (Does.store (i := 0) rfl rfl rfl sz57 rfl rfl (by first | exact Nat.le_of_ble_eq_true rfl | decide | omega) rfl rfl) ?_
 rintro _ _ ⟨rfl, rfl⟩
 refine TL.nt ?_
 refine TC.en (E' := [(6, _)]) ?_
 refine TC.r1 (M' := M) (fn := Tryz.f17) (fun _ _ h => h) rfl (RV.agg (i := 0) rfl ag57 sz57 rfl rfl rfl) ?_
 exact ⟨rfl, rfl⟩

end Go.Proofs.YtphoapajlcaoeaaGreat
/- walks -/
set_option linter.unusedVariables false
set_option linter.unusedSimpArgs false
set_option maxRecDepth 100000
set_option maxHeartbeats 4000000
namespace Go.Proofs.YtphoapajlcaoeaaGreat
open Go Go.X
/-- quorumite/quorumiteref1.in -/
theorem refin_fn (n lo hi : Int) (M : Hp) : FnC Tryz.prog 85 #[.int .i64 n, .int .i64 lo, .int .i64 hi] M (fun v M' => v = .bool (inB n lo hi) ∧ M = M') := by
 refine FnC.intro Tryz.func85 rfl 15 rfl (by simp) (fun z => ?_)
 refine TC.en (E' := [(0, _), (1, _), (2, _)]) ?_
 refine TC.sr ?_
 refine TL.v (Val.assign rfl) ?_
 refine TL.nt ?_
 refine TC.sr ?_
 refine TL.v (Val.move rfl) ?_
 refine TL.v (Val.move rfl) ?_
 refine TL.v (Val.geq rfl rfl) ?_
 refine TL.v (Val.move rfl) ?_
 refine TL.gen (fun g1 hg1 => ?_)
 refine TL.gv rfl rfl rfl (fun hg => by subst hg; exact (Val.move rfl)) ?_
 refine TL.gv rfl rfl rfl (fun hg => by subst hg; exact (Val.move rfl)) ?_
 refine TL.gv rfl rfl rfl (fun hg => by subst hg; exact (Val.leq rfl rfl)) ?_
 refine TL.v (Val.pickAnd rfl rfl rfl) ?_
 refine TL.v (Val.assign rfl) ?_
 refine TL.nt ?_
 refine TC.en (E' := [(6, _)]) ?_
 refine TC.r1 (hM := (fun _ h => h)) (fn := Tryz.f85) (fun _ _ h => h) rfl (RV.tmp rfl) ?_
 refine ⟨?_, rfl⟩
 subst_vars
 rfl

/-- quorumite/quorumiteref1.MayMsg -/
theorem refMay_fn (m : Ms) (M : Hp) : FnC Tryz.prog 58 #[.agg #[.int .i64 m.kind, .int .i64 m.who, .int .i64 m.gen, .int .i64 m.seq, .int .i64 m.epoch, .int .i64 m.value, .int .i64 m.metric]] M (fun v M' => ∃ g, v = .bool g ∧ g = mayM m ∧ M = M') := by
 refine FnC.intro Tryz.func58 rfl 63 rfl (by simp) (fun z => ?_)
 refine TC.en (E' := [(0, _)]) ?_
 refine TC.sr ?_
 refine TL.d (Does.box rfl rfl) ?_
 rintro _ _ ⟨b1, rfl, rfl⟩
 refine TL.v (Val.assign rfl) ?_
 refine TL.nt ?_
 refine TC.seq ?_
 refine TC.sr ?_
 refine TL.v (Val.fieldAddr rfl fl39_0 sz3 rfl) ?_
 refine TL.v (Val.load 0 rfl ag3 rfl rfl) ?_
 refine TL.d (Does.callF go85 rfl (refin_fn _ _ _ _)) ?_
 rintro _ _ ⟨rfl, rfl⟩
 refine TL.v (Val.not rfl) ?_
 refine TL.v (Val.move rfl) ?_
 refine TL.gen (fun g3 hg3 => ?_)
 cases g3 with
 | false =>
  refine TL.vy (Val.fieldAddr rfl fl39_1 sz3 rfl) ?_
  refine TL.vy (Val.load 0 rfl ag3 rfl rfl) ?_
  refine TL.dy (Does.callF go85 rfl (refin_fn _ _ _ _)) ?_
  rintro _ _ ⟨rfl, rfl⟩
  refine TL.vy (Val.not rfl) ?_
  refine TL.v (Val.pickOr rfl rfl rfl) ?_
  refine TL.v (Val.move rfl) ?_
  refine TL.gen (fun g5 hg5 => ?_)
  cases g5 with
  | false =>
   refine TL.vy (Val.fieldAddr rfl fl39_2 sz3 rfl) ?_
   refine TL.vy (Val.load 0 rfl ag3 rfl rfl) ?_
   refine TL.dy (Does.callF go85 rfl (refin_fn _ _ _ _)) ?_
   rintro _ _ ⟨rfl, rfl⟩
   refine TL.vy (Val.not rfl) ?_
   refine TL.v (Val.pickOr rfl rfl rfl) ?_
   refine TL.v (Val.move rfl) ?_
   refine TL.gen (fun g7 hg7 => ?_)
   refine TL.gv rfl rfl rfl (fun hg => by subst hg; exact (Val.fieldAddr rfl fl39_3 sz2 rfl)) ?_
   refine TL.gv rfl rfl rfl (fun hg => by subst hg; exact (Val.load 0 rfl ag2 rfl rfl)) ?_
   refine TL.gv rfl rfl rfl (fun hg => by subst hg; exact (Val.lss rfl rfl)) ?_
   refine TL.v (Val.pickOr rfl rfl rfl) ?_
   refine TL.v (Val.move rfl) ?_
   refine TL.gen (fun g8 hg8 => ?_)
   refine TL.gv rfl rfl rfl (fun hg => by subst hg; exact (Val.fieldAddr rfl fl39_3 sz2 rfl)) ?_
   refine TL.gv rfl rfl rfl (fun hg => by subst hg; exact (Val.load 0 rfl ag2 rfl rfl)) ?_
   refine TL.gv rfl rfl rfl (fun hg => by subst hg; exact (Val.gtr rfl rfl)) ?_
   refine TL.v (Val.pickOr rfl rfl rfl) ?_
   refine TL.v (Val.move rfl) ?_
   refine TL.gen (fun g9 hg9 => ?_)
   refine TL.gv rfl rfl rfl (fun hg => by subst hg; exact (Val.fieldAddr rfl fl39_4 sz2 rfl)) ?_
   refine TL.gv rfl rfl rfl (fun hg => by subst hg; exact (Val.load 0 rfl ag2 rfl rfl)) ?_
   refine TL.gv rfl rfl rfl (fun hg => by subst hg; exact (Val.lss rfl rfl)) ?_
   refine TL.v (Val.pickOr rfl rfl rfl) ?_
   refine TL.v (Val.move rfl) ?_
   refine TL.gen (fun g10 hg10 => ?_)
   refine TL.gv rfl rfl rfl (fun hg => by subst hg; exact (Val.fieldAddr rfl fl39_4 sz2 rfl)) ?_
   refine TL.gv rfl rfl rfl (fun hg => by subst hg; exact (Val.load 0 rfl ag2 rfl rfl)) ?_
   refine TL.gv rfl rfl rfl (fun hg => by subst hg; exact (Val.gtr rfl rfl)) ?_
   refine TL.v (Val.pickOr rfl rfl rfl) ?_
   refine TL.nt ?_
   refine TC.en (E' := [(1, _), (2, _), (38, _)]) ?_
   refine TC.cond rfl (fun c1 => ?_) (fun c1 => ?_)
   ·
    refine TC.sr ?_
    refine TL.v (Val.assign rfl) ?_
    refine TL.nt ?_
    refine TC.r1 (M' := M) (fn := Tryz.f58) (fun _ _ h => h) rfl (RV.tmp rfl) ?_
    refine ⟨_, rfl, ?_, rfl⟩
    subst_vars
    simp only [mayM, inB] at *
    grind
   ·
    refine TC.skip ?_
    refine AtX.then ?_
    refine TC.seq ?_
    refine TC.sr ?_
    refine TL.v (Val.fieldAddr rfl fl39_0 sz3 rfl) ?_
    refine TL.v (Val.load 0 rfl ag3 rfl rfl) ?_
    refine TL.v (Val.neqI rfl rfl) ?_
    refine TL.nt ?_
    refine TC.condP rfl (fun c2 => ?_) (fun c2 => ?_)
    ·
     refine TC.sr ?_
     refine TL.v (Val.fieldAddr rfl fl39_6 sz3 rfl) ?_
     refine TL.v (Val.load 0 rfl ag3 rfl rfl) ?_
     refine TL.v (Val.eqlI rfl rfl) ?_
     refine TL.v (Val.move rfl) ?_
     refine TL.gen (fun g11 hg11 => ?_)
     refine TL.gv rfl rfl rfl (fun hg => by subst hg; exact (Val.fieldAddr rfl fl39_5 sz2 rfl)) ?_
     refine TL.gv rfl rfl rfl (fun hg => by subst hg; exact (Val.load 0 rfl ag2 rfl rfl)) ?_
     refine TL.gv rfl rfl rfl (fun hg => by subst hg; exact (Val.eqlI rfl rfl)) ?_
     refine TL.v (Val.pickAnd rfl rfl rfl) ?_
     refine TL.v (Val.assign rfl) ?_
     refine TL.nt ?_
     refine TC.en (E' := [(1, _), (2, _)]) ?_
     refine TC.r1 (M' := M) (fn := Tryz.f58) (fun _ _ h => h) rfl (RV.tmp rfl) ?_
     refine ⟨_, rfl, ?_, rfl⟩
     subst_vars
     simp only [mayM, inB] at *
     grind
    ·
     refine TC.skip ?_
     refine AtX.then ?_
     refine TC.sr ?_
     refine TL.v (Val.fieldAddr rfl fl39_6 sz3 rfl) ?_
     refine TL.v (Val.load 0 rfl ag3 rfl rfl) ?_
     refine TL.d (Does.callF go85 rfl (refin_fn _ _ _ _)) ?_
     rintro _ _ ⟨rfl, rfl⟩
     refine TL.v (Val.move rfl) ?_
     refine TL.gen (fun g13 hg13 => ?_)
     refine TL.gv rfl rfl rfl (fun hg => by subst hg; exact (Val.fieldAddr rfl fl39_5 sz2 rfl)) ?_
     refine TL.gv rfl rfl rfl (fun hg => by subst hg; exact (Val.load 0 rfl ag2 rfl rfl)) ?_
     refine TL.gv rfl rfl rfl (fun hg => by subst hg; exact (Val.geq rfl rfl)) ?_
     refine TL.v (Val.pickAnd rfl rfl rfl) ?_
     refine TL.v (Val.move rfl) ?_
     refine TL.gen (fun g14 hg14 => ?_)
     refine TL.gv rfl rfl rfl (fun hg => by subst hg; exact (Val.fieldAddr rfl fl39_5 sz2 rfl)) ?_
     refine TL.gv rfl rfl rfl (fun hg => by subst hg; exact (Val.load 0 rfl ag2 rfl rfl)) ?_
     refine TL.gv rfl rfl rfl (fun hg => by subst hg; exact (Val.leq rfl rfl)) ?_
     refine TL.v (Val.pickAnd rfl rfl rfl) ?_
     refine TL.v (Val.assign rfl) ?_
     refine TL.nt ?_
     refine TC.en (E' := [(2, _)]) ?_
     refine TC.r1 (M' := M) (fn := Tryz.f58) (fun _ _ h => h) rfl (RV.tmp rfl) ?_
     refine ⟨_, rfl, ?_, rfl⟩
     subst_vars
     simp only [mayM, inB] at *
     grind
  | true =>
   refine TL.pa ?_
   refine TL.pa ?_
   refine TL.pa ?_
   refine TL.pa ?_
   refine TL.v (Val.pick rfl rfl rfl) ?_
   refine TL.v (Val.move rfl) ?_
   refine TL.gen (fun g15 hg15 => ?_)
   refine TL.gv rfl rfl rfl (fun hg => by subst hg; exact (Val.fieldAddr rfl fl39_3 sz2 rfl)) ?_
   refine TL.gv rfl rfl rfl (fun hg => by subst hg; exact (Val.load 0 rfl ag2 rfl rfl)) ?_
   refine TL.gv rfl rfl rfl (fun hg => by subst hg; exact (Val.lss rfl rfl)) ?_
   refine TL.v (Val.pickOr rfl rfl rfl) ?_
   refine TL.v (Val.move rfl) ?_
   refine TL.gen (fun g16 hg16 => ?_)
   refine TL.gv rfl rfl rfl (fun hg => by subst hg; exact (Val.fieldAddr rfl fl39_3 sz2 rfl)) ?_
   refine TL.gv rfl rfl rfl (fun hg => by subst hg; exact (Val.load 0 rfl ag2 rfl rfl)) ?_
   refine TL.gv rfl rfl rfl (fun hg => by subst hg; exact (Val.gtr rfl rfl)) ?_
   refine TL.v (Val.pickOr rfl rfl rfl) ?_
   refine TL.v (Val.move rfl) ?_
   refine TL.gen (fun g17 hg17 => ?_)
   refine TL.gv rfl rfl rfl (fun hg => by subst hg; exact (Val.fieldAddr rfl fl39_4 sz2 rfl)) ?_
   refine TL.gv rfl rfl rfl (fun hg => by subst hg; exact (Val.load 0 rfl ag2 rfl rfl)) ?_
   refine TL.gv rfl rfl rfl (fun hg => by subst hg; exact (Val.lss rfl rfl)) ?_
   refine TL.v (Val.pickOr rfl rfl rfl) ?_
   refine TL.v (Val.move rfl) ?_
   refine TL.gen (fun g18 hg18 => ?_)
   refine TL.gv rfl rfl rfl (fun hg => by subst hg; exact (Val.fieldAddr rfl fl39_4 sz2 rfl)) ?_
   refine TL.gv rfl rfl rfl (fun hg => by subst hg; exact (Val.load 0 rfl ag2 rfl rfl)) ?_
   refine TL.gv rfl rfl rfl (fun hg => by subst hg; exact (Val.gtr rfl rfl)) ?_
   refine TL.v (Val.pickOr rfl rfl rfl) ?_
   refine TL.nt ?_
   refine TC.en (E' := [(1, _), (2, _), (38, _)]) ?_
   refine TC.cond rfl (fun c3 => ?_) (fun c3 => ?_)
   ·
    refine TC.sr ?_
    refine TL.v (Val.assign rfl) ?_
    refine TL.nt ?_
    refine TC.r1 (M' := M) (fn := Tryz.f58) (fun _ _ h => h) rfl (RV.tmp rfl) ?_
    refine ⟨_, rfl, ?_, rfl⟩
    subst_vars
    simp only [mayM, inB] at *
    grind
   ·
    refine TC.skip ?_
    refine AtX.then ?_
    refine TC.seq ?_
    refine TC.sr ?_
    refine TL.v (Val.fieldAddr rfl fl39_0 sz3 rfl) ?_
    refine TL.v (Val.load 0 rfl ag3 rfl rfl) ?_
    refine TL.v (Val.neqI rfl rfl) ?_
    refine TL.nt ?_
    refine TC.condP rfl (fun c4 => ?_) (fun c4 => ?_)
    ·
     refine TC.sr ?_
     refine TL.v (Val.fieldAddr rfl fl39_6 sz3 rfl) ?_
     refine TL.v (Val.load 0 rfl ag3 rfl rfl) ?_
     refine TL.v (Val.eqlI rfl rfl) ?_
     refine TL.v (Val.move rfl) ?_
     refine TL.gen (fun g19 hg19 => ?_)
     refine TL.gv rfl rfl rfl (fun hg => by subst hg; exact (Val.fieldAddr rfl fl39_5 sz2 rfl)) ?_
     refine TL.gv rfl rfl rfl (fun hg => by subst hg; exact (Val.load 0 rfl ag2 rfl rfl)) ?_
     refine TL.gv rfl rfl rfl (fun hg => by subst hg; exact (Val.eqlI rfl rfl)) ?_
     refine TL.v (Val.pickAnd rfl rfl rfl) ?_
     refine TL.v (Val.assign rfl) ?_
     refine TL.nt ?_
     refine TC.en (E' := [(1, _), (2, _)]) ?_
     refine TC.r1 (M' := M) (fn := Tryz.f58) (fun _ _ h => h) rfl (RV.tmp rfl) ?_
     refine ⟨_, rfl, ?_, rfl⟩
     subst_vars
     simp only [mayM, inB] at *
     grind
    ·
     refine TC.skip ?_
     refine AtX.then ?_
     refine TC.sr ?_
     refine TL.v (Val.fieldAddr rfl fl39_6 sz3 rfl) ?_
     refine TL.v (Val.load 0 rfl ag3 rfl rfl) ?_
     refine TL.d (Does.callF go85 rfl (refin_fn _ _ _ _)) ?_
     rintro _ _ ⟨rfl, rfl⟩
     refine TL.v (Val.move rfl) ?_
     refine TL.gen (fun g21 hg21 => ?_)
     refine TL.gv rfl rfl rfl (fun hg => by subst hg; exact (Val.fieldAddr rfl fl39_5 sz2 rfl)) ?_
     refine TL.gv rfl rfl rfl (fun hg => by subst hg; exact (Val.load 0 rfl ag2 rfl rfl)) ?_
     refine TL.gv rfl rfl rfl (fun hg => by subst hg; exact (Val.geq rfl rfl)) ?_
     refine TL.v (Val.pickAnd rfl rfl rfl) ?_
     refine TL.v (Val.move rfl) ?_
     refine TL.gen (fun g22 hg22 => ?_)
     refine TL.gv rfl rfl rfl (fun hg => by subst hg; exact (Val.fieldAddr rfl fl39_5 sz2 rfl)) ?_
     refine TL.gv rfl rfl rfl (fun hg => by subst hg; exact (Val.load 0 rfl ag2 rfl rfl)) ?_
     refine TL.gv rfl rfl rfl (fun hg => by subst hg; exact (Val.leq rfl rfl)) ?_
     refine TL.v (Val.pickAnd rfl rfl rfl) ?_
     refine TL.v (Val.assign rfl) ?_
     refine TL.nt ?_
     refine TC.en (E' := [(2, _)]) ?_
     refine TC.r1 (M' := M) (fn := Tryz.f58) (fun _ _ h => h) rfl (RV.tmp rfl) ?_
     refine ⟨_, rfl, ?_, rfl⟩
     subst_vars
     simp only [mayM, inB] at *
     grind
 | true =>
  refine TL.pa ?_
  refine TL.pa ?_
  refine TL.pa ?_
  refine TL.pa ?_
  refine TL.v (Val.pick rfl rfl rfl) ?_
  refine TL.v (Val.move rfl) ?_
  refine TL.gen (fun g23 hg23 => ?_)
  cases g23 with
  | false =>
   refine TL.vy (Val.fieldAddr rfl fl39_2 sz3 rfl) ?_
   refine TL.vy (Val.load 0 rfl ag3 rfl rfl) ?_
   refine TL.dy (Does.callF go85 rfl (refin_fn _ _ _ _)) ?_
   rintro _ _ ⟨rfl, rfl⟩
   refine TL.vy (Val.not rfl) ?_
   refine TL.v (Val.pickOr rfl rfl rfl) ?_
   refine TL.v (Val.move rfl) ?_
   refine TL.gen (fun g25 hg25 => ?_)
   refine TL.gv rfl rfl rfl (fun hg => by subst hg; exact (Val.fieldAddr rfl fl39_3 sz2 rfl)) ?_
   refine TL.gv rfl rfl rfl (fun hg => by subst hg; exact (Val.load 0 rfl ag2 rfl rfl)) ?_
   refine TL.gv rfl rfl rfl (fun hg => by subst hg; exact (Val.lss rfl rfl)) ?_
   refine TL.v (Val.pickOr rfl rfl rfl) ?_
   refine TL.v (Val.move rfl) ?_
   refine TL.gen (fun g26 hg26 => ?_)
   refine TL.gv rfl rfl rfl (fun hg => by subst hg; exact (Val.fieldAddr rfl fl39_3 sz2 rfl)) ?_
   refine TL.gv rfl rfl rfl (fun hg => by subst hg; exact (Val.load 0 rfl ag2 rfl rfl)) ?_
   refine TL.gv rfl rfl rfl (fun hg => by subst hg; exact (Val.gtr rfl rfl)) ?_
   refine TL.v (Val.pickOr rfl rfl rfl) ?_
   refine TL.v (Val.move rfl) ?_
   refine TL.gen (fun g27 hg27 => ?_)
   refine TL.gv rfl rfl rfl (fun hg => by subst hg; exact (Val.fieldAddr rfl fl39_4 sz2 rfl)) ?_
   refine TL.gv rfl rfl rfl (fun hg => by subst hg; exact (Val.load 0 rfl ag2 rfl rfl)) ?_
   refine TL.gv rfl rfl rfl (fun hg => by subst hg; exact (Val.lss rfl rfl)) ?_
   refine TL.v (Val.pickOr rfl rfl rfl) ?_
   refine TL.v (Val.move rfl) ?_
   refine TL.gen (fun g28 hg28 => ?_)
   refine TL.gv rfl rfl rfl (fun hg => by subst hg; exact (Val.fieldAddr rfl fl39_4 sz2 rfl)) ?_
   refine TL.gv rfl rfl rfl (fun hg => by subst hg; exact (Val.load 0 rfl ag2 rfl rfl)) ?_
   refine TL.gv rfl rfl rfl (fun hg => by subst hg; exact (Val.gtr rfl rfl)) ?_
   refine TL.v (Val.pickOr rfl rfl rfl) ?_
   refine TL.nt ?_
   refine TC.en (E' := [(1, _), (2, _), (38, _)]) ?_
   refine TC.cond rfl (fun c5 => ?_) (fun c5 => ?_)
   ·
    refine TC.sr ?_
    refine TL.v (Val.assign rfl) ?_
    refine TL.nt ?_
    refine TC.r1 (M' := M) (fn := Tryz.f58) (fun _ _ h => h) rfl (RV.tmp rfl) ?_
    refine ⟨_, rfl, ?_, rfl⟩
    subst_vars
    simp only [mayM, inB] at *
    grind
   ·
    refine TC.skip ?_
    refine AtX.then ?_
    refine TC.seq ?_
    refine TC.sr ?_
    refine TL.v (Val.fieldAddr rfl fl39_0 sz3 rfl) ?_
    refine TL.v (Val.load 0 rfl ag3 rfl rfl) ?_
    refine TL.v (Val.neqI rfl rfl) ?_
    refine TL.nt ?_
    refine TC.condP rfl (fun c6 => ?_) (fun c6 => ?_)
    ·
     refine TC.sr ?_
     refine TL.v (Val.fieldAddr rfl fl39_6 sz3 rfl) ?_
     refine TL.v (Val.load 0 rfl ag3 rfl rfl) ?_
     refine TL.v (Val.eqlI rfl rfl) ?_
     refine TL.v (Val.move rfl) ?_
     refine TL.gen (fun g29 hg29 => ?_)
     refine TL.gv rfl rfl rfl (fun hg => by subst hg; exact (Val.fieldAddr rfl fl39_5 sz2 rfl)) ?_
     refine TL.gv rfl rfl rfl (fun hg => by subst hg; exact (Val.load 0 rfl ag2 rfl rfl)) ?_
     refine TL.gv rfl rfl rfl (fun hg => by subst hg; exact (Val.eqlI rfl rfl)) ?_
     refine TL.v (Val.pickAnd rfl rfl rfl) ?_
     refine TL.v (Val.assign rfl) ?_
     refine TL.nt ?_
     refine TC.en (E' := [(1, _), (2, _)]) ?_
     refine TC.r1 (M' := M) (fn := Tryz.f58) (fun _ _ h => h) rfl (RV.tmp rfl) ?_
     refine ⟨_, rfl, ?_, rfl⟩
     subst_vars
     simp only [mayM, inB] at *
     grind
    ·
     refine TC.skip ?_
     refine AtX.then ?_
     refine TC.sr ?_
     refine TL.v (Val.fieldAddr rfl fl39_6 sz3 rfl) ?_
     refine TL.v (Val.load 0 rfl ag3 rfl rfl) ?_
     refine TL.d (Does.callF go85 rfl (refin_fn _ _ _ _)) ?_
     rintro _ _ ⟨rfl, rfl⟩
     refine TL.v (Val.move rfl) ?_
     refine TL.gen (fun g31 hg31 => ?_)
     refine TL.gv rfl rfl rfl (fun hg => by subst hg; exact (Val.fieldAddr rfl fl39_5 sz2 rfl)) ?_
     refine TL.gv rfl rfl rfl (fun hg => by subst hg; exact (Val.load 0 rfl ag2 rfl rfl)) ?_
     refine TL.gv rfl rfl rfl (fun hg => by subst hg; exact (Val.geq rfl rfl)) ?_
     refine TL.v (Val.pickAnd rfl rfl rfl) ?_
     refine TL.v (Val.move rfl) ?_
     refine TL.gen (fun g32 hg32 => ?_)
     refine TL.gv rfl rfl rfl (fun hg => by subst hg; exact (Val.fieldAddr rfl fl39_5 sz2 rfl)) ?_
     refine TL.gv rfl rfl rfl (fun hg => by subst hg; exact (Val.load 0 rfl ag2 rfl rfl)) ?_
     refine TL.gv rfl rfl rfl (fun hg => by subst hg; exact (Val.leq rfl rfl)) ?_
     refine TL.v (Val.pickAnd rfl rfl rfl) ?_
     refine TL.v (Val.assign rfl) ?_
     refine TL.nt ?_
     refine TC.en (E' := [(2, _)]) ?_
     refine TC.r1 (M' := M) (fn := Tryz.f58) (fun _ _ h => h) rfl (RV.tmp rfl) ?_
     refine ⟨_, rfl, ?_, rfl⟩
     subst_vars
     simp only [mayM, inB] at *
     grind
  | true =>
   refine TL.pa ?_
   refine TL.pa ?_
   refine TL.pa ?_
   refine TL.pa ?_
   refine TL.v (Val.pick rfl rfl rfl) ?_
   refine TL.v (Val.move rfl) ?_
   refine TL.gen (fun g33 hg33 => ?_)
   refine TL.gv rfl rfl rfl (fun hg => by subst hg; exact (Val.fieldAddr rfl fl39_3 sz2 rfl)) ?_
   refine TL.gv rfl rfl rfl (fun hg => by subst hg; exact (Val.load 0 rfl ag2 rfl rfl)) ?_
   refine TL.gv rfl rfl rfl (fun hg => by subst hg; exact (Val.lss rfl rfl)) ?_
   refine TL.v (Val.pickOr rfl rfl rfl) ?_
   refine TL.v (Val.move rfl) ?_
   refine TL.gen (fun g34 hg34 => ?_)
   refine TL.gv rfl rfl rfl (fun hg => by subst hg; exact (Val.fieldAddr rfl fl39_3 sz2 rfl)) ?_
   refine TL.gv rfl rfl rfl (fun hg => by subst hg; exact (Val.load 0 rfl ag2 rfl rfl)) ?_
   refine TL.gv rfl rfl rfl (fun hg => by subst hg; exact (Val.gtr rfl rfl)) ?_
   refine TL.v (Val.pickOr rfl rfl rfl) ?_
   refine TL.v (Val.move rfl) ?_
   refine TL.gen (fun g35 hg35 => ?_)
   refine TL.gv rfl rfl rfl (fun hg => by subst hg; exact (Val.fieldAddr rfl fl39_4 sz2 rfl)) ?_
   refine TL.gv rfl rfl rfl (fun hg => by subst hg; exact (Val.load 0 rfl ag2 rfl rfl)) ?_
   refine TL.gv rfl rfl rfl (fun hg => by subst hg; exact (Val.lss rfl rfl)) ?_
   refine TL.v (Val.pickOr rfl rfl rfl) ?_
   refine TL.v (Val.move rfl) ?_
   refine TL.gen (fun g36 hg36 => ?_)
   refine TL.gv rfl rfl rfl (fun hg => by subst hg; exact (Val.fieldAddr rfl fl39_4 sz2 rfl)) ?_
   refine TL.gv rfl rfl rfl (fun hg => by subst hg; exact (Val.load 0 rfl ag2 rfl rfl)) ?_
   refine TL.gv rfl rfl rfl (fun hg => by subst hg; exact (Val.gtr rfl rfl)) ?_
   refine TL.v (Val.pickOr rfl rfl rfl) ?_
   refine TL.nt ?_
   refine TC.en (E' := [(1, _), (2, _), (38, _)]) ?_
   refine TC.cond rfl (fun c7 => ?_) (fun c7 => ?_)
   ·
    refine TC.sr ?_
    refine TL.v (Val.assign rfl) ?_
    refine TL.nt ?_
    refine TC.r1 (M' := M) (fn := Tryz.f58) (fun _ _ h => h) rfl (RV.tmp rfl) ?_
    refine ⟨_, rfl, ?_, rfl⟩
    subst_vars
    simp only [mayM, inB] at *
    grind
   ·
    refine TC.skip ?_
    refine AtX.then ?_
    refine TC.seq ?_
    refine TC.sr ?_
    refine TL.v (Val.fieldAddr rfl fl39_0 sz3 rfl) ?_
    refine TL.v (Val.load 0 rfl ag3 rfl rfl) ?_
    refine TL.v (Val.neqI rfl rfl) ?_
    refine TL.nt ?_
    refine TC.condP rfl (fun c8 => ?_) (fun c8 => ?_)
    ·
     refine TC.sr ?_
     refine TL.v (Val.fieldAddr rfl fl39_6 sz3 rfl) ?_
     refine TL.v (Val.load 0 rfl ag3 rfl rfl) ?_
     refine TL.v (Val.eqlI rfl rfl) ?_
     refine TL.v (Val.move rfl) ?_
     refine TL.gen (fun g37 hg37 => ?_)
     refine TL.gv rfl rfl rfl (fun hg => by subst hg; exact (Val.fieldAddr rfl fl39_5 sz2 rfl)) ?_
     refine TL.gv rfl rfl rfl (fun hg => by subst hg; exact (Val.load 0 rfl ag2 rfl rfl)) ?_
     refine TL.gv rfl rfl rfl (fun hg => by subst hg; exact (Val.eqlI rfl rfl)) ?_
     refine TL.v (Val.pickAnd rfl rfl rfl) ?_
     refine TL.v (Val.assign rfl) ?_
     refine TL.nt ?_
     refine TC.en (E' := [(1, _), (2, _)]) ?_
     refine TC.r1 (M' := M) (fn := Tryz.f58) (fun _ _ h => h) rfl (RV.tmp rfl) ?_
     refine ⟨_, rfl, ?_, rfl⟩
     subst_vars
     simp only [mayM, inB] at *
     grind
    ·
     refine TC.skip ?_
     refine AtX.then ?_
     refine TC.sr ?_
     refine TL.v (Val.fieldAddr rfl fl39_6 sz3 rfl) ?_
     refine TL.v (Val.load 0 rfl ag3 rfl rfl) ?_
     refine TL.d (Does.callF go85 rfl (refin_fn _ _ _ _)) ?_
     rintro _ _ ⟨rfl, rfl⟩
     refine TL.v (Val.move rfl) ?_
     refine TL.gen (fun g39 hg39 => ?_)
     refine TL.gv rfl rfl rfl (fun hg => by subst hg; exact (Val.fieldAddr rfl fl39_5 sz2 rfl)) ?_
     refine TL.gv rfl rfl rfl (fun hg => by subst hg; exact (Val.load 0 rfl ag2 rfl rfl)) ?_
     refine TL.gv rfl rfl rfl (fun hg => by subst hg; exact (Val.geq rfl rfl)) ?_
     refine TL.v (Val.pickAnd rfl rfl rfl) ?_
     refine TL.v (Val.move rfl) ?_
     refine TL.gen (fun g40 hg40 => ?_)
     refine TL.gv rfl rfl rfl (fun hg => by subst hg; exact (Val.fieldAddr rfl fl39_5 sz2 rfl)) ?_
     refine TL.gv rfl rfl rfl (fun hg => by subst hg; exact (Val.load 0 rfl ag2 rfl rfl)) ?_
     refine TL.gv rfl rfl rfl (fun hg => by subst hg; exact (Val.leq rfl rfl)) ?_
     refine TL.v (Val.pickAnd rfl rfl rfl) ?_
     refine TL.v (Val.assign rfl) ?_
     refine TL.nt ?_
     refine TC.en (E' := [(2, _)]) ?_
     refine TC.r1 (M' := M) (fn := Tryz.f58) (fun _ _ h => h) rfl (RV.tmp rfl) ?_
     refine ⟨_, rfl, ?_, rfl⟩
     subst_vars
     simp only [mayM, inB] at *
     grind

end Go.Proofs.YtphoapajlcaoeaaGreat
