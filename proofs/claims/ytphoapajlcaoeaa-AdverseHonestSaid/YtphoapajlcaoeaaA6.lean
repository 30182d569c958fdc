/- walks -/
import Derived.Test.YtphoapajlcaoeaaA5
import Derived.Test.YtphoapajlcaoeaaE9d
set_option linter.unusedVariables false
set_option linter.unusedSimpArgs false
set_option maxRecDepth 100000
set_option maxHeartbeats 4000000
namespace Go.Proofs.Ytphoapajlcaoeaa
open Go Go.X
/-- quorumite/mac.Root -/
theorem Root_fn (s : Int) (M : Hp) : FnC Try.prog 77 #[.int .u64 s] M (fun v M' => v = .agg #[.int .u64 (rootK s).a, .int .u64 (rootK s).b] ∧ M = M') := by
  refine FnC.intro Try.func77 rfl 8 rfl (by simp) (fun z => ?_)
  refine TC.env (E' := [(0, _)]) (Sub.cons rfl (Sub.nil _)) ?_
  refine TC.seq ?_
  refine TC.region ?_
  refine TL.does (some 2) rfl rfl rfl (Does.alloc ze69 rfl) ?_
  rintro _ _ ⟨b1, rfl, rfl⟩
  refine TL.nil ?_
  refine AtX.then ?_
  refine TC.seq ?_
  refine TC.region ?_
  refine TL.val rfl rfl (Nat.le_of_ble_eq_true rfl) (Val.move rfl) ?_
  refine TL.val rfl rfl (Nat.le_of_ble_eq_true rfl) (Val.move rfl) ?_
  refine TL.val rfl rfl (Nat.le_of_ble_eq_true rfl) (Val.add rfl rfl (r := add64 s 1) rfl) ?_
  refine TL.val rfl rfl (Nat.le_of_ble_eq_true rfl) (Val.buildA ar69 sz24 ze69 rfl rfl) ?_
  refine TL.does (some 7) rfl rfl rfl (Does.callF go76 rfl (Derive_fn ⟨s, add64 s 1⟩ [114, 111, 111, 116] 0 _ (by decide))) ?_
  rintro _ _ ⟨rfl, rfl⟩
  first
    | refine TL.does none rfl rfl rfl (Does.store (i := 0) rfl rfl rfl sz69 rfl rfl (by first | exact Nat.le_of_ble_eq_true rfl | decide | omega) rfl rfl) ?_
    | refine TL.does none rfl rfl rfl (Does.store (i := 1) rfl rfl rfl sz69 rfl rfl (by first | exact Nat.le_of_ble_eq_true rfl | decide | omega) rfl rfl) ?_
    | refine TL.does none rfl rfl rfl (Does.store (i := 2) rfl rfl rfl sz69 rfl rfl (by first | exact Nat.le_of_ble_eq_true rfl | decide | omega) rfl rfl) ?_
    | refine TL.does none rfl rfl rfl (Does.store (i := 3) rfl rfl rfl sz69 rfl rfl (by first | exact Nat.le_of_ble_eq_true rfl | decide | omega) rfl rfl) ?_
    | refine TL.does none rfl rfl rfl (Does.store (i := 4) rfl rfl rfl sz69 rfl rfl (by first | exact Nat.le_of_ble_eq_true rfl | decide | omega) rfl rfl) ?_
    | refine TL.does none rfl rfl rfl (Does.store (i := 5) rfl rfl rfl sz69 rfl rfl (by first | exact Nat.le_of_ble_eq_true rfl | decide | omega) rfl rfl) ?_
  rintro _ _ ⟨rfl, rfl⟩
  refine TL.nil ?_
  refine AtX.then ?_
  refine TC.env (E' := [(2, _)]) (Sub.cons rfl (Sub.nil _)) ?_
  first
    | refine TC.ret1 (fn := Try.f77) (fun _ _ h => h) rfl (RV.agg (i := 0) rfl ag69 sz69 rfl rfl rfl) (M' := M) (by repeat (first | exact ro_refl | exact ro_pre | refine ro_tail ?_ | refine ro_app ?_)) ?_
    | refine TC.ret1 (fn := Try.f77) (fun _ _ h => h) rfl (RV.agg (i := 1) rfl ag69 sz69 rfl rfl rfl) (M' := M) (by repeat (first | exact ro_refl | exact ro_pre | refine ro_tail ?_ | refine ro_app ?_)) ?_
    | refine TC.ret1 (fn := Try.f77) (fun _ _ h => h) rfl (RV.agg (i := 2) rfl ag69 sz69 rfl rfl rfl) (M' := M) (by repeat (first | exact ro_refl | exact ro_pre | refine ro_tail ?_ | refine ro_app ?_)) ?_
    | refine TC.ret1 (fn := Try.f77) (fun _ _ h => h) rfl (RV.agg (i := 3) rfl ag69 sz69 rfl rfl rfl) (M' := M) (by repeat (first | exact ro_refl | exact ro_pre | refine ro_tail ?_ | refine ro_app ?_)) ?_
    | refine TC.ret1 (fn := Try.f77) (fun _ _ h => h) rfl (RV.agg (i := 4) rfl ag69 sz69 rfl rfl rfl) (M' := M) (by repeat (first | exact ro_refl | exact ro_pre | refine ro_tail ?_ | refine ro_app ?_)) ?_
    | refine TC.ret1 (fn := Try.f77) (fun _ _ h => h) rfl (RV.agg (i := 5) rfl ag69 sz69 rfl rfl rfl) (M' := M) (by repeat (first | exact ro_refl | exact ro_pre | refine ro_tail ?_ | refine ro_app ?_)) ?_
  exact ⟨rfl, rfl⟩

/-- quorumite/mac.Of -/
theorem Of_fn (s who gen : Int) (M : Hp) : FnC Try.prog 37 #[.int .u64 s, .int .i64 who, .int .i64 gen] M (fun v M' => v = .agg #[.int .u64 (macKey s who gen).a, .int .u64 (macKey s who gen).b] ∧ M = M') := by
  refine FnC.intro Try.func37 rfl 15 rfl (by simp) (fun z => ?_)
  refine TC.env (E' := [(0, _), (1, _), (2, _)]) (Sub.cons rfl (Sub.cons rfl (Sub.cons rfl (Sub.nil _)))) ?_
  refine TC.seq ?_
  refine TC.region ?_
  refine TL.does (some 6) rfl rfl rfl (Does.alloc ze69 rfl) ?_
  rintro _ _ ⟨b1, rfl, rfl⟩
  refine TL.nil ?_
  refine AtX.then ?_
  refine TC.seq ?_
  refine TC.region ?_
  refine TL.val rfl rfl (Nat.le_of_ble_eq_true rfl) (Val.move rfl) ?_
  refine TL.does (some 8) rfl rfl rfl (Does.callF go77 rfl (Root_fn s _)) ?_
  rintro _ _ ⟨rfl, rfl⟩
  refine TL.val rfl rfl (Nat.le_of_ble_eq_true rfl) (Val.move rfl) ?_
  refine TL.val rfl rfl (Nat.le_of_ble_eq_true rfl) (Val.convI rfl iu3 in24 rfl) ?_
  refine TL.does (some 11) rfl rfl rfl (Does.callF go76 rfl (Derive_fn (rootK s) [119, 104, 111] (IntKind.u64.wrap who) _ (by decide))) ?_
  rintro _ _ ⟨rfl, rfl⟩
  refine TL.val rfl rfl (Nat.le_of_ble_eq_true rfl) (Val.move rfl) ?_
  refine TL.val rfl rfl (Nat.le_of_ble_eq_true rfl) (Val.convI rfl iu3 in24 rfl) ?_
  refine TL.does (some 14) rfl rfl rfl (Does.callF go76 rfl (Derive_fn (deriveK (rootK s) [119, 104, 111] (IntKind.u64.wrap who)) [103, 101, 110] (IntKind.u64.wrap gen) _ (by decide))) ?_
  rintro _ _ ⟨rfl, rfl⟩
  first
    | refine TL.does none rfl rfl rfl (Does.store (i := 0) rfl rfl rfl sz69 rfl rfl (by first | exact Nat.le_of_ble_eq_true rfl | decide | omega) rfl rfl) ?_
    | refine TL.does none rfl rfl rfl (Does.store (i := 1) rfl rfl rfl sz69 rfl rfl (by first | exact Nat.le_of_ble_eq_true rfl | decide | omega) rfl rfl) ?_
    | refine TL.does none rfl rfl rfl (Does.store (i := 2) rfl rfl rfl sz69 rfl rfl (by first | exact Nat.le_of_ble_eq_true rfl | decide | omega) rfl rfl) ?_
    | refine TL.does none rfl rfl rfl (Does.store (i := 3) rfl rfl rfl sz69 rfl rfl (by first | exact Nat.le_of_ble_eq_true rfl | decide | omega) rfl rfl) ?_
    | refine TL.does none rfl rfl rfl (Does.store (i := 4) rfl rfl rfl sz69 rfl rfl (by first | exact Nat.le_of_ble_eq_true rfl | decide | omega) rfl rfl) ?_
    | refine TL.does none rfl rfl rfl (Does.store (i := 5) rfl rfl rfl sz69 rfl rfl (by first | exact Nat.le_of_ble_eq_true rfl | decide | omega) rfl rfl) ?_
  rintro _ _ ⟨rfl, rfl⟩
  refine TL.nil ?_
  refine AtX.then ?_
  refine TC.env (E' := [(6, _)]) (Sub.cons rfl (Sub.nil _)) ?_
  first
    | refine TC.ret1 (fn := Try.f37) (fun _ _ h => h) rfl (RV.agg (i := 0) rfl ag69 sz69 rfl rfl rfl) (M' := M) (by repeat (first | exact ro_refl | exact ro_pre | refine ro_tail ?_ | refine ro_app ?_)) ?_
    | refine TC.ret1 (fn := Try.f37) (fun _ _ h => h) rfl (RV.agg (i := 1) rfl ag69 sz69 rfl rfl rfl) (M' := M) (by repeat (first | exact ro_refl | exact ro_pre | refine ro_tail ?_ | refine ro_app ?_)) ?_
    | refine TC.ret1 (fn := Try.f37) (fun _ _ h => h) rfl (RV.agg (i := 2) rfl ag69 sz69 rfl rfl rfl) (M' := M) (by repeat (first | exact ro_refl | exact ro_pre | refine ro_tail ?_ | refine ro_app ?_)) ?_
    | refine TC.ret1 (fn := Try.f37) (fun _ _ h => h) rfl (RV.agg (i := 3) rfl ag69 sz69 rfl rfl rfl) (M' := M) (by repeat (first | exact ro_refl | exact ro_pre | refine ro_tail ?_ | refine ro_app ?_)) ?_
    | refine TC.ret1 (fn := Try.f37) (fun _ _ h => h) rfl (RV.agg (i := 4) rfl ag69 sz69 rfl rfl rfl) (M' := M) (by repeat (first | exact ro_refl | exact ro_pre | refine ro_tail ?_ | refine ro_app ?_)) ?_
    | refine TC.ret1 (fn := Try.f37) (fun _ _ h => h) rfl (RV.agg (i := 5) rfl ag69 sz69 rfl rfl rfl) (M' := M) (by repeat (first | exact ro_refl | exact ro_pre | refine ro_tail ?_ | refine ro_app ?_)) ?_
  exact ⟨rfl, rfl⟩

/-- quorumite/mac.Tag -/
theorem Tag_fn (k : K2) (l : List UInt8) (A : Option Addr) (n c : Nat) (M : Hp) (hA : RdS M A (bv l)) (hn : n = l.length) (hl : l.length ≤ 1000) : FnC Try.prog 40 #[.agg #[.int .u64 k.a, .int .u64 k.b], .slice A n c] M (fun v M' => v = .agg #[.int .u64 (tagOf k l).a, .int .u64 (tagOf k l).b] ∧ M = M') := by
  subst hn
  refine FnC.intro Try.func40 rfl 17 rfl (by simp) (fun z => ?_)
  refine TC.env (E' := [(0, _), (1, _)]) (Sub.cons rfl (Sub.cons rfl (Sub.nil _))) ?_
  refine TC.seq ?_
  refine TC.region ?_
  refine TL.does (some 2) rfl rfl rfl (Does.box rfl rfl) ?_
  rintro _ _ ⟨b1, rfl, rfl⟩
  refine TL.does (some 4) rfl rfl rfl (Does.alloc ze73 rfl) ?_
  rintro _ _ ⟨b2, rfl, rfl⟩
  refine TL.nil ?_
  refine AtX.then ?_
  refine TC.env (E' := [(1, _), (2, _), (4, _)]) (Sub.cons rfl (Sub.cons rfl (Sub.cons rfl (Sub.nil _)))) ?_
  refine TC.seq ?_
  refine TC.drawL ((b1, .cells #[.int .u64 k.a, .int .u64 k.b] 69 (0, 0)) :: M) mixed 13 ?_
  first
    | refine TA.tk 0 1 rfl rfl rfl (Val.loadAgg 0 rfl ag69 sz69 rfl rfl rfl) ?_
    | refine TA.tk 0 1 rfl rfl rfl (Val.loadAgg 1 rfl ag69 sz69 rfl rfl rfl) ?_
    | refine TA.tk 0 1 rfl rfl rfl (Val.loadAgg 2 rfl ag69 sz69 rfl rfl rfl) ?_
    | refine TA.tk 0 1 rfl rfl rfl (Val.loadAgg 3 rfl ag69 sz69 rfl rfl rfl) ?_
    | refine TA.tk 0 1 rfl rfl rfl (Val.loadAgg 4 rfl ag69 sz69 rfl rfl rfl) ?_
    | refine TA.tk 0 1 rfl rfl rfl (Val.loadAgg 5 rfl ag69 sz69 rfl rfl rfl) ?_
  refine TA.tk 1 3 rfl rfl rfl (Val.move rfl) ?_
  refine TA.tk 3 11 rfl rfl rfl (Val.indexAddrA (i := 1) rfl rfl ar69 sz24 rfl (by first | decide | omega) rfl) ?_
  first
    | refine TA.tk 4 27 rfl rfl rfl (Val.load 0 rfl ag24 rfl rfl) ?_
    | refine TA.tk 4 27 rfl rfl rfl (Val.load 1 rfl ag24 rfl rfl) ?_
    | refine TA.tk 4 27 rfl rfl rfl (Val.load 2 rfl ag24 rfl rfl) ?_
    | refine TA.tk 4 27 rfl rfl rfl (Val.load 3 rfl ag24 rfl rfl) ?_
    | refine TA.tk 4 27 rfl rfl rfl (Val.load 4 rfl ag24 rfl rfl) ?_
    | refine TA.tk 4 27 rfl rfl rfl (Val.load 5 rfl ag24 rfl rfl) ?_
  refine TA.tk 5 59 rfl rfl rfl (Val.indexAddrA (i := 0) rfl rfl ar69 sz24 rfl (by first | decide | omega) rfl) ?_
  first
    | refine TA.tk 6 123 rfl rfl rfl (Val.load 0 rfl ag24 rfl rfl) ?_
    | refine TA.tk 6 123 rfl rfl rfl (Val.load 1 rfl ag24 rfl rfl) ?_
    | refine TA.tk 6 123 rfl rfl rfl (Val.load 2 rfl ag24 rfl rfl) ?_
    | refine TA.tk 6 123 rfl rfl rfl (Val.load 3 rfl ag24 rfl rfl) ?_
    | refine TA.tk 6 123 rfl rfl rfl (Val.load 4 rfl ag24 rfl rfl) ?_
    | refine TA.tk 6 123 rfl rfl rfl (Val.load 5 rfl ag24 rfl rfl) ?_
  refine TA.tk 7 251 rfl rfl rfl (Val.xorU rfl (r := not64 k.a) rfl) ?_
  refine TA.tk 8 507 rfl rfl rfl (Val.buildA ar69 sz24 ze69 rfl rfl) ?_
  refine TA.tk 9 1019 rfl rfl rfl (Val.move rfl) ?_
  refine TA.one 2 (by kernel_rfl) ?_
  refine TO.dz 1023 (some 7) rfl rfl rfl rfl (Does.callF go79 rfl (sipSum_fn k l _ _ _ _ ((hA.cons _).cons _) rfl hl)) ?_
  rintro _ _ ⟨rfl, rfl⟩
  refine roK ?_
  refine TA.one 10 (by kernel_rfl) ?_
  refine TO.dz 2047 (some 15) rfl rfl rfl rfl (Does.callF go79 rfl (sipSum_fn ⟨k.b, not64 k.a⟩ l _ _ _ _ ((hA.cons _).cons _) rfl hl)) ?_
  rintro _ _ ⟨rfl, rfl⟩
  refine roK ?_
  refine TA.tk 11 4095 rfl rfl rfl (Val.buildA ar73 sz24 ze73 rfl rfl) ?_
  refine TA.one 12 (by kernel_rfl) ?_
  first
    | refine TO.dz 8191 none rfl rfl rfl rfl (Does.store (i := 0) rfl rfl rfl sz73 rfl rfl (by first | exact Nat.le_of_ble_eq_true rfl | decide | omega) rfl rfl) ?_
    | refine TO.dz 8191 none rfl rfl rfl rfl (Does.store (i := 1) rfl rfl rfl sz73 rfl rfl (by first | exact Nat.le_of_ble_eq_true rfl | decide | omega) rfl rfl) ?_
    | refine TO.dz 8191 none rfl rfl rfl rfl (Does.store (i := 2) rfl rfl rfl sz73 rfl rfl (by first | exact Nat.le_of_ble_eq_true rfl | decide | omega) rfl rfl) ?_
    | refine TO.dz 8191 none rfl rfl rfl rfl (Does.store (i := 3) rfl rfl rfl sz73 rfl rfl (by first | exact Nat.le_of_ble_eq_true rfl | decide | omega) rfl rfl) ?_
    | refine TO.dz 8191 none rfl rfl rfl rfl (Does.store (i := 4) rfl rfl rfl sz73 rfl rfl (by first | exact Nat.le_of_ble_eq_true rfl | decide | omega) rfl rfl) ?_
    | refine TO.dz 8191 none rfl rfl rfl rfl (Does.store (i := 5) rfl rfl rfl sz73 rfl rfl (by first | exact Nat.le_of_ble_eq_true rfl | decide | omega) rfl rfl) ?_
  rintro _ _ ⟨rfl, rfl⟩
  refine roK ?_
  refine TA.done (by kernel_rfl) ?_
  refine AtX.then ?_
  refine TC.env (E' := [(4, _)]) (Sub.cons rfl (Sub.nil _)) ?_
  first
    | refine TC.ret1 (fn := Try.f40) (fun _ _ h => h) rfl (RV.agg (i := 0) rfl ag73 sz73 rfl rfl rfl) (M' := M) (by repeat (first | exact ro_refl | exact ro_pre | refine ro_tail ?_ | refine ro_app ?_)) ?_
    | refine TC.ret1 (fn := Try.f40) (fun _ _ h => h) rfl (RV.agg (i := 1) rfl ag73 sz73 rfl rfl rfl) (M' := M) (by repeat (first | exact ro_refl | exact ro_pre | refine ro_tail ?_ | refine ro_app ?_)) ?_
    | refine TC.ret1 (fn := Try.f40) (fun _ _ h => h) rfl (RV.agg (i := 2) rfl ag73 sz73 rfl rfl rfl) (M' := M) (by repeat (first | exact ro_refl | exact ro_pre | refine ro_tail ?_ | refine ro_app ?_)) ?_
    | refine TC.ret1 (fn := Try.f40) (fun _ _ h => h) rfl (RV.agg (i := 3) rfl ag73 sz73 rfl rfl rfl) (M' := M) (by repeat (first | exact ro_refl | exact ro_pre | refine ro_tail ?_ | refine ro_app ?_)) ?_
    | refine TC.ret1 (fn := Try.f40) (fun _ _ h => h) rfl (RV.agg (i := 4) rfl ag73 sz73 rfl rfl rfl) (M' := M) (by repeat (first | exact ro_refl | exact ro_pre | refine ro_tail ?_ | refine ro_app ?_)) ?_
    | refine TC.ret1 (fn := Try.f40) (fun _ _ h => h) rfl (RV.agg (i := 5) rfl ag73 sz73 rfl rfl rfl) (M' := M) (by repeat (first | exact ro_refl | exact ro_pre | refine ro_tail ?_ | refine ro_app ?_)) ?_
  exact ⟨rfl, rfl⟩

/-- quorumite/mac.Bytes -/
theorem Bytes_fn (t : K2) (M : Hp) : FnC Try.prog 75 #[.agg #[.int .u64 t.a, .int .u64 t.b]] M (fun v M' => ∃ b c sp, v = .slice (some ⟨b, 0, none⟩) 16 c ∧ 16 + sp.length = c ∧ M' = (b, row 5 (bv (tagB t) ++ sp)) :: M) := by
  refine FnC.intro Try.func75 rfl 10 rfl (by simp) (fun z => ?_)
  refine TC.env (E' := [(0, _)]) (Sub.cons rfl (Sub.nil _)) ?_
  refine TC.seq ?_
  refine TC.region ?_
  refine TL.does (some 1) rfl rfl rfl (Does.box rfl rfl) ?_
  rintro _ _ ⟨b1, rfl, rfl⟩
  refine TL.val rfl rfl (Nat.le_of_ble_eq_true rfl) (Val.assign rfl) ?_
  refine TL.nil ?_
  refine AtX.then ?_
  refine TC.env (E' := [(1, _), (2, _)]) (Sub.cons rfl (Sub.cons rfl (Sub.nil _))) ?_
  refine TC.seq ?_
  refine TC.drawL ((b1, .cells #[.int .u64 t.a, .int .u64 t.b] 73 (0, 0)) :: M) mixed 8 ?_
  refine TA.tk 0 1 rfl rfl rfl (Val.indexAddrA (i := 0) rfl rfl ar73 sz24 rfl (by first | decide | omega) rfl) ?_
  first
    | refine TA.tk 1 3 rfl rfl rfl (Val.load 0 rfl ag24 rfl rfl) ?_
    | refine TA.tk 1 3 rfl rfl rfl (Val.load 1 rfl ag24 rfl rfl) ?_
    | refine TA.tk 1 3 rfl rfl rfl (Val.load 2 rfl ag24 rfl rfl) ?_
    | refine TA.tk 1 3 rfl rfl rfl (Val.load 3 rfl ag24 rfl rfl) ?_
    | refine TA.tk 1 3 rfl rfl rfl (Val.load 4 rfl ag24 rfl rfl) ?_
    | refine TA.tk 1 3 rfl rfl rfl (Val.load 5 rfl ag24 rfl rfl) ?_
  refine TA.tk 3 11 rfl rfl rfl (Val.indexAddrA (i := 1) rfl rfl ar73 sz24 rfl (by first | decide | omega) rfl) ?_
  first
    | refine TA.tk 4 27 rfl rfl rfl (Val.load 0 rfl ag24 rfl rfl) ?_
    | refine TA.tk 4 27 rfl rfl rfl (Val.load 1 rfl ag24 rfl rfl) ?_
    | refine TA.tk 4 27 rfl rfl rfl (Val.load 2 rfl ag24 rfl rfl) ?_
    | refine TA.tk 4 27 rfl rfl rfl (Val.load 3 rfl ag24 rfl rfl) ?_
    | refine TA.tk 4 27 rfl rfl rfl (Val.load 4 rfl ag24 rfl rfl) ?_
    | refine TA.tk 4 27 rfl rfl rfl (Val.load 5 rfl ag24 rfl rfl) ?_
  refine TA.one 2 (by kernel_rfl) ?_
  refine TO.dz 31 (some 5) rfl rfl rfl rfl (Does.callF go78 rfl (sipPut_fn _ _)) ?_
  rintro _ _ ⟨bP, cP, spP, rfl, hcP, rfl⟩
  refine roK ?_
  refine TA.one 5 (by kernel_rfl) ?_
  refine TO.dz 63 (some 8) rfl rfl rfl rfl (Does.callF go78 rfl (sipPut_fn _ _)) ?_
  rintro _ _ ⟨bQ, cQ, spQ, rfl, hcQ, rfl⟩
  refine roK ?_
  refine TA.one 6 (by kernel_rfl) ?_
  refine TO.dz 127 (some 9) rfl rfl rfl rfl (Does.appendS (xs := bv (put8 t.a)) (ys := bv (put8 t.b)) (some (bP, cP, spP)) ((b1, .cells #[.int .u64 t.a, .int .u64 t.b] 73 (0, 0)) :: M) (ro_tail ro_refl) rfl rfl sl37 sz5 by5 ze5 rfl ⟨by simp, by simpa using hcP⟩ (srcB us37 (rd_all (i := 0) rfl)) (by simp) (bv_one _) (by omega) (by omega)) ?_
  rintro _ _ ⟨σ, rfl, hok, rfl⟩
  obtain ⟨b, c, sp, rfl, hc⟩ := hok.some (by omega)
  rw [← bv_append]
  refine roK ?_
  refine TA.tk 7 255 rfl rfl rfl (Val.assign rfl) ?_
  refine TA.done (by kernel_rfl) ?_
  refine AtX.then ?_
  refine TC.env (E' := [(2, _)]) (Sub.cons rfl (Sub.nil _)) ?_
  refine TC.ret1 (fn := Try.f75) (fun _ _ h => h) rfl (RV.tmp rfl) (M' := (b, row 5 (bv (tagB t) ++ sp)) :: M) (fun w h => ro_del 1 rfl w h) ?_
  exact ⟨b, c, sp, rfl, by simpa using hc, rfl⟩

end Go.Proofs.Ytphoapajlcaoeaa
