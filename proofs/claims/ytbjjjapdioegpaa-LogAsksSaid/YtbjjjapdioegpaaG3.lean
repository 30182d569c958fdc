/- walks -/
import Derived.Test.YtbjjjapdioegpaaG2
set_option linter.unusedVariables false
set_option linter.unusedSimpArgs false
set_option maxRecDepth 100000
set_option maxHeartbeats 4000000
namespace Go.Proofs.Ytbjjjapdioegpaa
open Go Go.X
/-- quorumite/log.Get -/
theorem Get_a (l : List UInt8) (A : Option Addr) (n c : Nat) (M : Hp) (hA : RdS M A (bv l)) (hn : n = l.length) (hl : l.length ≠ 64) : FnC Try.prog 12 #[.slice A n c] M (fun v M' => v = .tuple #[zeroC, .bool false, .int .i64 1] ∧ M = M') := by
  subst hn
  have h4 : (l.getD 4 0).toNat < 256 := UInt8.toNat_lt _
  have h5 : (l.getD 5 0).toNat < 256 := UInt8.toNat_lt _
  have h6 : (l.getD 6 0).toNat < 256 := UInt8.toNat_lt _
  have h7 : (l.getD 7 0).toNat < 256 := UInt8.toNat_lt _
  refine FnC.intro Try.func12 rfl 62 rfl (by simp) (fun z => ?_)
  refine TC.env (E' := [(0, _)]) (Sub.cons rfl (Sub.nil _)) ?_
  refine TC.seq ?_
  refine TC.region ?_
  refine TL.does (some 2) rfl rfl rfl (Does.alloc ze31 rfl) ?_
  rintro _ _ ⟨b1, rfl, rfl⟩
  refine TL.val rfl rfl (Nat.le_of_ble_eq_true rfl) (Val.assign rfl) ?_
  refine TL.val rfl rfl (Nat.le_of_ble_eq_true rfl) (Val.assign rfl) ?_
  refine TL.nil ?_
  refine AtX.then ?_
  refine TC.seq ?_
  refine TC.seq ?_
  refine TC.region ?_
  refine TL.val rfl rfl (Nat.le_of_ble_eq_true rfl) (Val.move rfl) ?_
  refine TL.val rfl rfl (Nat.le_of_ble_eq_true rfl) (Val.lenSl rfl rfl sl23) ?_
  refine TL.val rfl rfl (Nat.le_of_ble_eq_true rfl) (Val.neqI rfl rfl) ?_
  refine TL.nil ?_
  refine AtX.then ?_
  refine TC.env (E' := [(0, _), (2, _), (3, _), (4, _), (12, _)]) (Sub.cons rfl (Sub.cons rfl (Sub.cons rfl (Sub.cons rfl (Sub.cons rfl (Sub.nil _)))))) ?_
  first | refine TC.condP rfl (fun c1 => ?_) (fun c1 => ?_) | refine TC.condN rfl (fun c1 => ?_) (fun c1 => ?_) | refine TC.condB rfl (fun c1 => ?_) (fun c1 => ?_) | refine TC.cond rfl (fun c1 => ?_) (fun c1 => ?_)
  · skip
    refine TC.env (E' := [(0, _), (2, _), (3, _), (4, _)]) (Sub.cons rfl (Sub.cons rfl (Sub.cons rfl (Sub.cons rfl (Sub.nil _))))) ?_
    refine TC.seq ?_
    refine TC.region ?_
    refine TL.val rfl rfl (Nat.le_of_ble_eq_true rfl) (Val.buildS pl31 ze31 rfl rfl) ?_
    first
      | refine TL.does none rfl rfl rfl (Does.store (i := 0) rfl rfl rfl sz31 rfl rfl (by first | decide | omega) rfl rfl) ?_
      | refine TL.does none rfl rfl rfl (Does.store (i := 1) rfl rfl rfl sz31 rfl rfl (by first | decide | omega) rfl rfl) ?_
      | refine TL.does none rfl rfl rfl (Does.store (i := 2) rfl rfl rfl sz31 rfl rfl (by first | decide | omega) rfl rfl) ?_
      | refine TL.does none rfl rfl rfl (Does.store (i := 3) rfl rfl rfl sz31 rfl rfl (by first | decide | omega) rfl rfl) ?_
      | refine TL.does none rfl rfl rfl (Does.store (i := 4) rfl rfl rfl sz31 rfl rfl (by first | decide | omega) rfl rfl) ?_
      | refine TL.does none rfl rfl rfl (Does.store (i := 5) rfl rfl rfl sz31 rfl rfl (by first | decide | omega) rfl rfl) ?_
    rintro _ _ ⟨rfl, rfl⟩
    refine TL.val rfl rfl (Nat.le_of_ble_eq_true rfl) (Val.assign rfl) ?_
    refine TL.val rfl rfl (Nat.le_of_ble_eq_true rfl) (Val.assign rfl) ?_
    refine TL.nil ?_
    refine AtX.then ?_
    refine TC.env (E' := [(0, _), (2, _), (3, _), (4, _)]) (Sub.cons rfl (Sub.cons rfl (Sub.cons rfl (Sub.cons rfl (Sub.nil _))))) ?_
    first
      | refine TC.ret3 (fn := Try.f12) (fun _ _ h => h) rfl (RV.agg (i := 0) rfl ag31 sz31 rfl rfl rfl) (RV.tmp rfl) (RV.tmp rfl) (ro_tail ro_refl) ?_
      | refine TC.ret3 (fn := Try.f12) (fun _ _ h => h) rfl (RV.agg (i := 1) rfl ag31 sz31 rfl rfl rfl) (RV.tmp rfl) (RV.tmp rfl) (ro_tail ro_refl) ?_
      | refine TC.ret3 (fn := Try.f12) (fun _ _ h => h) rfl (RV.agg (i := 2) rfl ag31 sz31 rfl rfl rfl) (RV.tmp rfl) (RV.tmp rfl) (ro_tail ro_refl) ?_
      | refine TC.ret3 (fn := Try.f12) (fun _ _ h => h) rfl (RV.agg (i := 3) rfl ag31 sz31 rfl rfl rfl) (RV.tmp rfl) (RV.tmp rfl) (ro_tail ro_refl) ?_
      | refine TC.ret3 (fn := Try.f12) (fun _ _ h => h) rfl (RV.agg (i := 4) rfl ag31 sz31 rfl rfl rfl) (RV.tmp rfl) (RV.tmp rfl) (ro_tail ro_refl) ?_
      | refine TC.ret3 (fn := Try.f12) (fun _ _ h => h) rfl (RV.agg (i := 5) rfl ag31 sz31 rfl rfl rfl) (RV.tmp rfl) (RV.tmp rfl) (ro_tail ro_refl) ?_
    exact ⟨rfl, rfl⟩
  · skip
    omega

/-- quorumite/log.Get -/
theorem Get_b (l : List UInt8) (A : Option Addr) (n c : Nat) (M : Hp) (hA : RdS M A (bv l)) (hn : n = l.length) (hl : l.length = 64) (hw : wholeB l = false) : FnC Try.prog 12 #[.slice A n c] M (fun v M' => v = .tuple #[zeroC, .bool false, .int .i64 0] ∧ M = M') := by
  subst hn
  have h4 : (l.getD 4 0).toNat < 256 := UInt8.toNat_lt _
  have h5 : (l.getD 5 0).toNat < 256 := UInt8.toNat_lt _
  have h6 : (l.getD 6 0).toNat < 256 := UInt8.toNat_lt _
  have h7 : (l.getD 7 0).toNat < 256 := UInt8.toNat_lt _
  refine FnC.intro Try.func12 rfl 62 rfl (by simp) (fun z => ?_)
  refine TC.env (E' := [(0, _)]) (Sub.cons rfl (Sub.nil _)) ?_
  refine TC.seq ?_
  refine TC.region ?_
  refine TL.does (some 2) rfl rfl rfl (Does.alloc ze31 rfl) ?_
  rintro _ _ ⟨b1, rfl, rfl⟩
  refine TL.val rfl rfl (Nat.le_of_ble_eq_true rfl) (Val.assign rfl) ?_
  refine TL.val rfl rfl (Nat.le_of_ble_eq_true rfl) (Val.assign rfl) ?_
  refine TL.nil ?_
  refine AtX.then ?_
  refine TC.seq ?_
  refine TC.seq ?_
  refine TC.region ?_
  refine TL.val rfl rfl (Nat.le_of_ble_eq_true rfl) (Val.move rfl) ?_
  refine TL.val rfl rfl (Nat.le_of_ble_eq_true rfl) (Val.lenSl rfl rfl sl23) ?_
  refine TL.val rfl rfl (Nat.le_of_ble_eq_true rfl) (Val.neqI rfl rfl) ?_
  refine TL.nil ?_
  refine AtX.then ?_
  refine TC.env (E' := [(0, _), (2, _), (3, _), (4, _), (12, _)]) (Sub.cons rfl (Sub.cons rfl (Sub.cons rfl (Sub.cons rfl (Sub.cons rfl (Sub.nil _)))))) ?_
  first | refine TC.condP rfl (fun c1 => ?_) (fun c1 => ?_) | refine TC.condN rfl (fun c1 => ?_) (fun c1 => ?_) | refine TC.condB rfl (fun c1 => ?_) (fun c1 => ?_) | refine TC.cond rfl (fun c1 => ?_) (fun c1 => ?_)
  · skip
    omega
  · skip
    refine TC.env (E' := [(0, _), (2, _), (3, _), (4, _)]) (Sub.cons rfl (Sub.cons rfl (Sub.cons rfl (Sub.cons rfl (Sub.nil _))))) ?_
    refine TC.skip ?_
    refine AtX.then ?_
    refine TC.env (E' := [(0, _), (2, _), (3, _), (4, _)]) (Sub.cons rfl (Sub.cons rfl (Sub.cons rfl (Sub.cons rfl (Sub.nil _))))) ?_
    refine TC.seq ?_
    refine TC.region ?_
    refine TL.val rfl rfl (Nat.le_of_ble_eq_true rfl) (Val.move rfl) ?_
    refine TL.does (some 16) rfl rfl rfl (Does.callF go24 rfl (Of_fn l _ _ _ _ (hA.cons _) rfl hl)) ?_
    rintro _ _ ⟨rfl, rfl⟩
    refine TL.val rfl rfl (Nat.le_of_ble_eq_true rfl) (Val.move rfl) ?_
    refine TL.val rfl rfl (Nat.le_of_ble_eq_true rfl) (Val.extract rfl rfl) ?_
    refine TL.val rfl rfl (Nat.le_of_ble_eq_true rfl) (Val.extract rfl rfl) ?_
    refine TL.val rfl rfl (Nat.le_of_ble_eq_true rfl) (Val.assign rfl) ?_
    refine TL.val rfl rfl (Nat.le_of_ble_eq_true rfl) (Val.assign rfl) ?_
    refine TL.nil ?_
    refine AtX.then ?_
    refine TC.env (E' := [(0, _), (2, _), (3, _), (4, _), (5, _), (6, _)]) (Sub.cons rfl (Sub.cons rfl (Sub.cons rfl (Sub.cons rfl (Sub.cons rfl (Sub.cons rfl (Sub.nil _))))))) ?_
    refine TC.seq ?_
    refine TC.seq ?_
    refine TC.region ?_
    refine TL.val rfl rfl (Nat.le_of_ble_eq_true rfl) (Val.move rfl) ?_
    refine TL.val rfl rfl (Nat.le_of_ble_eq_true rfl) (Val.not rfl) ?_
    refine TL.nil ?_
    refine AtX.then ?_
    refine TC.env (E' := [(0, _), (2, _), (3, _), (4, _), (5, _), (20, _)]) (Sub.cons rfl (Sub.cons rfl (Sub.cons rfl (Sub.cons rfl (Sub.cons rfl (Sub.cons rfl (Sub.nil _))))))) ?_
    first | refine TC.condP rfl (fun c2 => ?_) (fun c2 => ?_) | refine TC.condN rfl (fun c2 => ?_) (fun c2 => ?_) | refine TC.condB rfl (fun c2 => ?_) (fun c2 => ?_) | refine TC.cond rfl (fun c2 => ?_) (fun c2 => ?_)
    · skip
      refine TC.env (E' := [(0, _), (2, _), (3, _), (4, _), (5, _)]) (Sub.cons rfl (Sub.cons rfl (Sub.cons rfl (Sub.cons rfl (Sub.cons rfl (Sub.nil _)))))) ?_
      refine TC.seq ?_
      refine TC.region ?_
      refine TL.val rfl rfl (Nat.le_of_ble_eq_true rfl) (Val.buildS pl31 ze31 rfl rfl) ?_
      first
        | refine TL.does none rfl rfl rfl (Does.store (i := 0) rfl rfl rfl sz31 rfl rfl (by first | decide | omega) rfl rfl) ?_
        | refine TL.does none rfl rfl rfl (Does.store (i := 1) rfl rfl rfl sz31 rfl rfl (by first | decide | omega) rfl rfl) ?_
        | refine TL.does none rfl rfl rfl (Does.store (i := 2) rfl rfl rfl sz31 rfl rfl (by first | decide | omega) rfl rfl) ?_
        | refine TL.does none rfl rfl rfl (Does.store (i := 3) rfl rfl rfl sz31 rfl rfl (by first | decide | omega) rfl rfl) ?_
        | refine TL.does none rfl rfl rfl (Does.store (i := 4) rfl rfl rfl sz31 rfl rfl (by first | decide | omega) rfl rfl) ?_
        | refine TL.does none rfl rfl rfl (Does.store (i := 5) rfl rfl rfl sz31 rfl rfl (by first | decide | omega) rfl rfl) ?_
      rintro _ _ ⟨rfl, rfl⟩
      refine TL.val rfl rfl (Nat.le_of_ble_eq_true rfl) (Val.assign rfl) ?_
      refine TL.val rfl rfl (Nat.le_of_ble_eq_true rfl) (Val.assign rfl) ?_
      refine TL.nil ?_
      refine AtX.then ?_
      refine TC.env (E' := [(0, _), (2, _), (3, _), (4, _), (5, _)]) (Sub.cons rfl (Sub.cons rfl (Sub.cons rfl (Sub.cons rfl (Sub.cons rfl (Sub.nil _)))))) ?_
      first
        | refine TC.ret3 (fn := Try.f12) (fun _ _ h => h) rfl (RV.agg (i := 0) rfl ag31 sz31 rfl rfl rfl) (RV.tmp rfl) (RV.tmp rfl) (ro_tail ro_refl) ?_
        | refine TC.ret3 (fn := Try.f12) (fun _ _ h => h) rfl (RV.agg (i := 1) rfl ag31 sz31 rfl rfl rfl) (RV.tmp rfl) (RV.tmp rfl) (ro_tail ro_refl) ?_
        | refine TC.ret3 (fn := Try.f12) (fun _ _ h => h) rfl (RV.agg (i := 2) rfl ag31 sz31 rfl rfl rfl) (RV.tmp rfl) (RV.tmp rfl) (ro_tail ro_refl) ?_
        | refine TC.ret3 (fn := Try.f12) (fun _ _ h => h) rfl (RV.agg (i := 3) rfl ag31 sz31 rfl rfl rfl) (RV.tmp rfl) (RV.tmp rfl) (ro_tail ro_refl) ?_
        | refine TC.ret3 (fn := Try.f12) (fun _ _ h => h) rfl (RV.agg (i := 4) rfl ag31 sz31 rfl rfl rfl) (RV.tmp rfl) (RV.tmp rfl) (ro_tail ro_refl) ?_
        | refine TC.ret3 (fn := Try.f12) (fun _ _ h => h) rfl (RV.agg (i := 5) rfl ag31 sz31 rfl rfl rfl) (RV.tmp rfl) (RV.tmp rfl) (ro_tail ro_refl) ?_
      exact ⟨rfl, rfl⟩
    · skip
      rw [hw] at c2; cases c2

/-- quorumite/log.Get -/
theorem Get_c (l : List UInt8) (A : Option Addr) (n c : Nat) (M : Hp) (hA : RdS M A (bv l)) (hn : n = l.length) (hcap : l.length ≤ c) (hl : l.length = 64) (hw : wholeB l = true) (hm : mayL l = false) : FnC Try.prog 12 #[.slice A n c] M (fun v M' => v = .tuple #[zeroC, .bool true, .int .i64 12] ∧ M = M') := by
  subst hn
  have h4 : (l.getD 4 0).toNat < 256 := UInt8.toNat_lt _
  have h5 : (l.getD 5 0).toNat < 256 := UInt8.toNat_lt _
  have h6 : (l.getD 6 0).toNat < 256 := UInt8.toNat_lt _
  have h7 : (l.getD 7 0).toNat < 256 := UInt8.toNat_lt _
  have hn48 : nOf l ≤ 48 := by simp only [nOf]; omega
  obtain ⟨b, q, rfl, hR⟩ := RdS.get hA (by simp; omega)
  refine FnC.intro Try.func12 rfl 62 rfl (by simp) (fun z => ?_)
  refine TC.env (E' := [(0, _)]) (Sub.cons rfl (Sub.nil _)) ?_
  refine TC.seq ?_
  refine TC.region ?_
  refine TL.does (some 2) rfl rfl rfl (Does.alloc ze31 rfl) ?_
  rintro _ _ ⟨b1, rfl, rfl⟩
  refine TL.val rfl rfl (Nat.le_of_ble_eq_true rfl) (Val.assign rfl) ?_
  refine TL.val rfl rfl (Nat.le_of_ble_eq_true rfl) (Val.assign rfl) ?_
  refine TL.nil ?_
  refine AtX.then ?_
  refine TC.seq ?_
  refine TC.seq ?_
  refine TC.region ?_
  refine TL.val rfl rfl (Nat.le_of_ble_eq_true rfl) (Val.move rfl) ?_
  refine TL.val rfl rfl (Nat.le_of_ble_eq_true rfl) (Val.lenSl rfl rfl sl23) ?_
  refine TL.val rfl rfl (Nat.le_of_ble_eq_true rfl) (Val.neqI rfl rfl) ?_
  refine TL.nil ?_
  refine AtX.then ?_
  refine TC.env (E' := [(0, _), (2, _), (3, _), (4, _), (12, _)]) (Sub.cons rfl (Sub.cons rfl (Sub.cons rfl (Sub.cons rfl (Sub.cons rfl (Sub.nil _)))))) ?_
  first | refine TC.condP rfl (fun c1 => ?_) (fun c1 => ?_) | refine TC.condN rfl (fun c1 => ?_) (fun c1 => ?_) | refine TC.condB rfl (fun c1 => ?_) (fun c1 => ?_) | refine TC.cond rfl (fun c1 => ?_) (fun c1 => ?_)
  · skip
    omega
  · skip
    refine TC.env (E' := [(0, _), (2, _), (3, _), (4, _)]) (Sub.cons rfl (Sub.cons rfl (Sub.cons rfl (Sub.cons rfl (Sub.nil _))))) ?_
    refine TC.skip ?_
    refine AtX.then ?_
    refine TC.env (E' := [(0, _), (2, _), (3, _), (4, _)]) (Sub.cons rfl (Sub.cons rfl (Sub.cons rfl (Sub.cons rfl (Sub.nil _))))) ?_
    refine TC.seq ?_
    refine TC.region ?_
    refine TL.val rfl rfl (Nat.le_of_ble_eq_true rfl) (Val.move rfl) ?_
    refine TL.does (some 16) rfl rfl rfl (Does.callF go24 rfl (Of_fn l _ _ _ _ (hA.cons _) rfl hl)) ?_
    rintro _ _ ⟨rfl, rfl⟩
    refine TL.val rfl rfl (Nat.le_of_ble_eq_true rfl) (Val.move rfl) ?_
    refine TL.val rfl rfl (Nat.le_of_ble_eq_true rfl) (Val.extract rfl rfl) ?_
    refine TL.val rfl rfl (Nat.le_of_ble_eq_true rfl) (Val.extract rfl rfl) ?_
    refine TL.val rfl rfl (Nat.le_of_ble_eq_true rfl) (Val.assign rfl) ?_
    refine TL.val rfl rfl (Nat.le_of_ble_eq_true rfl) (Val.assign rfl) ?_
    refine TL.nil ?_
    refine AtX.then ?_
    refine TC.env (E' := [(0, _), (2, _), (3, _), (4, _), (5, _), (6, _)]) (Sub.cons rfl (Sub.cons rfl (Sub.cons rfl (Sub.cons rfl (Sub.cons rfl (Sub.cons rfl (Sub.nil _))))))) ?_
    refine TC.seq ?_
    refine TC.seq ?_
    refine TC.region ?_
    refine TL.val rfl rfl (Nat.le_of_ble_eq_true rfl) (Val.move rfl) ?_
    refine TL.val rfl rfl (Nat.le_of_ble_eq_true rfl) (Val.not rfl) ?_
    refine TL.nil ?_
    refine AtX.then ?_
    refine TC.env (E' := [(0, _), (2, _), (3, _), (4, _), (5, _), (20, _)]) (Sub.cons rfl (Sub.cons rfl (Sub.cons rfl (Sub.cons rfl (Sub.cons rfl (Sub.cons rfl (Sub.nil _))))))) ?_
    first | refine TC.condP rfl (fun c2 => ?_) (fun c2 => ?_) | refine TC.condN rfl (fun c2 => ?_) (fun c2 => ?_) | refine TC.condB rfl (fun c2 => ?_) (fun c2 => ?_) | refine TC.cond rfl (fun c2 => ?_) (fun c2 => ?_)
    · skip
      rw [hw] at c2; cases c2
    · skip
      refine TC.env (E' := [(0, _), (2, _), (3, _), (4, _), (5, _)]) (Sub.cons rfl (Sub.cons rfl (Sub.cons rfl (Sub.cons rfl (Sub.cons rfl (Sub.nil _)))))) ?_
      refine TC.skip ?_
      refine AtX.then ?_
      refine TC.env (E' := [(0, _), (2, _), (3, _), (4, _), (5, _)]) (Sub.cons rfl (Sub.cons rfl (Sub.cons rfl (Sub.cons rfl (Sub.cons rfl (Sub.nil _)))))) ?_
      refine TC.seq ?_
      refine TC.draw M mixed ?_
      refine TA.take 0 rfl rfl rfl (Nat.le_of_ble_eq_true rfl) (by kernel_rfl) (by kernel_rfl) (by kernel_rfl) (listed' := #[true, false, false, false, false, false, false, false, false, false, false, false, false, false, false, false, false, false, false, false, false, false, false, false, false, false, false]) (by kernel_rfl) (by repeat (first | exact ro_refl | exact ro_pre | refine ro_tail ?_ | refine ro_app ?_)) (Val.move rfl) ?_
      refine TA.take 1 rfl rfl rfl (Nat.le_of_ble_eq_true rfl) (by kernel_rfl) (by kernel_rfl) (by kernel_rfl) (listed' := #[true, true, false, false, false, false, false, false, false, false, false, false, false, false, false, false, false, false, false, false, false, false, false, false, false, false, false]) (by kernel_rfl) (by repeat (first | exact ro_refl | exact ro_pre | refine ro_tail ?_ | refine ro_app ?_)) (Val.move rfl) ?_
      refine TA.take 2 rfl rfl rfl (Nat.le_of_ble_eq_true rfl) (by kernel_rfl) (by kernel_rfl) (by kernel_rfl) (listed' := #[true, true, true, false, false, false, false, false, false, false, false, false, false, false, false, false, false, false, false, false, false, false, false, false, false, false, false]) (by kernel_rfl) (by repeat (first | exact ro_refl | exact ro_pre | refine ro_tail ?_ | refine ro_app ?_)) (Val.indexAddr (i := 4) rfl rfl sl23 sz5 rfl (by first | decide | omega) rfl) ?_
      refine TA.take 3 rfl rfl rfl (Nat.le_of_ble_eq_true rfl) (by kernel_rfl) (by kernel_rfl) (by kernel_rfl) (listed' := #[true, true, true, true, false, false, false, false, false, false, false, false, false, false, false, false, false, false, false, false, false, false, false, false, false, false, false]) (by kernel_rfl) (by repeat (first | exact ro_refl | exact ro_pre | refine ro_tail ?_ | refine ro_app ?_)) (Val.loadB 4 rfl ag5 hR (by simp) (by omega)) ?_
      first
        | refine TA.take 4 rfl rfl rfl (Nat.le_of_ble_eq_true rfl) (by kernel_rfl) (by kernel_rfl) (by kernel_rfl) (listed' := #[true, true, true, true, true, false, false, false, false, false, false, false, false, false, false, false, false, false, false, false, false, false, false, false, false, false, false]) (by kernel_rfl) (by repeat (first | exact ro_refl | exact ro_pre | refine ro_tail ?_ | refine ro_app ?_)) (Val.convI rfl iu5 in3 (w_i64 (by omega) (by omega))) ?_
        | refine TA.take 4 rfl rfl rfl (Nat.le_of_ble_eq_true rfl) (by kernel_rfl) (by kernel_rfl) (by kernel_rfl) (listed' := #[true, true, true, true, true, false, false, false, false, false, false, false, false, false, false, false, false, false, false, false, false, false, false, false, false, false, false]) (by kernel_rfl) (by repeat (first | exact ro_refl | exact ro_pre | refine ro_tail ?_ | refine ro_app ?_)) (Val.convI rfl iu5 in3 rfl) ?_
      refine TA.take 5 rfl rfl rfl (Nat.le_of_ble_eq_true rfl) (by kernel_rfl) (by kernel_rfl) (by kernel_rfl) (listed' := #[true, true, true, true, true, true, false, false, false, false, false, false, false, false, false, false, false, false, false, false, false, false, false, false, false, false, false]) (by kernel_rfl) (by repeat (first | exact ro_refl | exact ro_pre | refine ro_tail ?_ | refine ro_app ?_)) (Val.move rfl) ?_
      refine TA.take 6 rfl rfl rfl (Nat.le_of_ble_eq_true rfl) (by kernel_rfl) (by kernel_rfl) (by kernel_rfl) (listed' := #[true, true, true, true, true, true, true, false, false, false, false, false, false, false, false, false, false, false, false, false, false, false, false, false, false, false, false]) (by kernel_rfl) (by repeat (first | exact ro_refl | exact ro_pre | refine ro_tail ?_ | refine ro_app ?_)) (Val.indexAddr (i := 5) rfl rfl sl23 sz5 rfl (by first | decide | omega) rfl) ?_
      refine TA.take 7 rfl rfl rfl (Nat.le_of_ble_eq_true rfl) (by kernel_rfl) (by kernel_rfl) (by kernel_rfl) (listed' := #[true, true, true, true, true, true, true, true, false, false, false, false, false, false, false, false, false, false, false, false, false, false, false, false, false, false, false]) (by kernel_rfl) (by repeat (first | exact ro_refl | exact ro_pre | refine ro_tail ?_ | refine ro_app ?_)) (Val.loadB 5 rfl ag5 hR (by simp) (by omega)) ?_
      first
        | refine TA.take 8 rfl rfl rfl (Nat.le_of_ble_eq_true rfl) (by kernel_rfl) (by kernel_rfl) (by kernel_rfl) (listed' := #[true, true, true, true, true, true, true, true, true, false, false, false, false, false, false, false, false, false, false, false, false, false, false, false, false, false, false]) (by kernel_rfl) (by repeat (first | exact ro_refl | exact ro_pre | refine ro_tail ?_ | refine ro_app ?_)) (Val.convI rfl iu5 in3 (w_i64 (by omega) (by omega))) ?_
        | refine TA.take 8 rfl rfl rfl (Nat.le_of_ble_eq_true rfl) (by kernel_rfl) (by kernel_rfl) (by kernel_rfl) (listed' := #[true, true, true, true, true, true, true, true, true, false, false, false, false, false, false, false, false, false, false, false, false, false, false, false, false, false, false]) (by kernel_rfl) (by repeat (first | exact ro_refl | exact ro_pre | refine ro_tail ?_ | refine ro_app ?_)) (Val.convI rfl iu5 in3 rfl) ?_
      refine TA.take 9 rfl rfl rfl (Nat.le_of_ble_eq_true rfl) (by kernel_rfl) (by kernel_rfl) (by kernel_rfl) (listed' := #[true, true, true, true, true, true, true, true, true, true, false, false, false, false, false, false, false, false, false, false, false, false, false, false, false, false, false]) (by kernel_rfl) (by repeat (first | exact ro_refl | exact ro_pre | refine ro_tail ?_ | refine ro_app ?_)) (Val.shl rfl rfl (by omega) (shl_pl h5)) ?_
      refine TA.take 10 rfl rfl rfl (Nat.le_of_ble_eq_true rfl) (by kernel_rfl) (by kernel_rfl) (by kernel_rfl) (listed' := #[true, true, true, true, true, true, true, true, true, true, true, false, false, false, false, false, false, false, false, false, false, false, false, false, false, false, false]) (by kernel_rfl) (by repeat (first | exact ro_refl | exact ro_pre | refine ro_tail ?_ | refine ro_app ?_)) (Val.or rfl rfl (r := (plOf l : Nat)) (or_pl h4 h5)) ?_
      refine TA.take 11 rfl rfl rfl (Nat.le_of_ble_eq_true rfl) (by kernel_rfl) (by kernel_rfl) (by kernel_rfl) (listed' := #[true, true, true, true, true, true, true, true, true, true, true, true, false, false, false, false, false, false, false, false, false, false, false, false, false, false, false]) (by kernel_rfl) (by repeat (first | exact ro_refl | exact ro_pre | refine ro_tail ?_ | refine ro_app ?_)) (Val.move rfl) ?_
      refine TA.take 12 rfl rfl rfl (Nat.le_of_ble_eq_true rfl) (by kernel_rfl) (by kernel_rfl) (by kernel_rfl) (listed' := #[true, true, true, true, true, true, true, true, true, true, true, true, true, false, false, false, false, false, false, false, false, false, false, false, false, false, false]) (by kernel_rfl) (by repeat (first | exact ro_refl | exact ro_pre | refine ro_tail ?_ | refine ro_app ?_)) (Val.indexAddr (i := 6) rfl rfl sl23 sz5 rfl (by first | decide | omega) rfl) ?_
      refine TA.take 13 rfl rfl rfl (Nat.le_of_ble_eq_true rfl) (by kernel_rfl) (by kernel_rfl) (by kernel_rfl) (listed' := #[true, true, true, true, true, true, true, true, true, true, true, true, true, true, false, false, false, false, false, false, false, false, false, false, false, false, false]) (by kernel_rfl) (by repeat (first | exact ro_refl | exact ro_pre | refine ro_tail ?_ | refine ro_app ?_)) (Val.loadB 6 rfl ag5 hR (by simp) (by omega)) ?_
      first
        | refine TA.take 14 rfl rfl rfl (Nat.le_of_ble_eq_true rfl) (by kernel_rfl) (by kernel_rfl) (by kernel_rfl) (listed' := #[true, true, true, true, true, true, true, true, true, true, true, true, true, true, true, false, false, false, false, false, false, false, false, false, false, false, false]) (by kernel_rfl) (by repeat (first | exact ro_refl | exact ro_pre | refine ro_tail ?_ | refine ro_app ?_)) (Val.convI rfl iu5 in3 (w_i64 (by omega) (by omega))) ?_
        | refine TA.take 14 rfl rfl rfl (Nat.le_of_ble_eq_true rfl) (by kernel_rfl) (by kernel_rfl) (by kernel_rfl) (listed' := #[true, true, true, true, true, true, true, true, true, true, true, true, true, true, true, false, false, false, false, false, false, false, false, false, false, false, false]) (by kernel_rfl) (by repeat (first | exact ro_refl | exact ro_pre | refine ro_tail ?_ | refine ro_app ?_)) (Val.convI rfl iu5 in3 rfl) ?_
      refine TA.take 15 rfl rfl rfl (Nat.le_of_ble_eq_true rfl) (by kernel_rfl) (by kernel_rfl) (by kernel_rfl) (listed' := #[true, true, true, true, true, true, true, true, true, true, true, true, true, true, true, true, false, false, false, false, false, false, false, false, false, false, false]) (by kernel_rfl) (by repeat (first | exact ro_refl | exact ro_pre | refine ro_tail ?_ | refine ro_app ?_)) (Val.move rfl) ?_
      refine TA.take 16 rfl rfl rfl (Nat.le_of_ble_eq_true rfl) (by kernel_rfl) (by kernel_rfl) (by kernel_rfl) (listed' := #[true, true, true, true, true, true, true, true, true, true, true, true, true, true, true, true, true, false, false, false, false, false, false, false, false, false, false]) (by kernel_rfl) (by repeat (first | exact ro_refl | exact ro_pre | refine ro_tail ?_ | refine ro_app ?_)) (Val.move rfl) ?_
      refine TA.take 17 rfl rfl rfl (Nat.le_of_ble_eq_true rfl) (by kernel_rfl) (by kernel_rfl) (by kernel_rfl) (listed' := #[true, true, true, true, true, true, true, true, true, true, true, true, true, true, true, true, true, true, false, false, false, false, false, false, false, false, false]) (by kernel_rfl) (by repeat (first | exact ro_refl | exact ro_pre | refine ro_tail ?_ | refine ro_app ?_)) (Val.indexAddr (i := 7) rfl rfl sl23 sz5 rfl (by first | decide | omega) rfl) ?_
      refine TA.take 18 rfl rfl rfl (Nat.le_of_ble_eq_true rfl) (by kernel_rfl) (by kernel_rfl) (by kernel_rfl) (listed' := #[true, true, true, true, true, true, true, true, true, true, true, true, true, true, true, true, true, true, true, false, false, false, false, false, false, false, false]) (by kernel_rfl) (by repeat (first | exact ro_refl | exact ro_pre | refine ro_tail ?_ | refine ro_app ?_)) (Val.loadB 7 rfl ag5 hR (by simp) (by omega)) ?_
      first
        | refine TA.take 19 rfl rfl rfl (Nat.le_of_ble_eq_true rfl) (by kernel_rfl) (by kernel_rfl) (by kernel_rfl) (listed' := #[true, true, true, true, true, true, true, true, true, true, true, true, true, true, true, true, true, true, true, true, false, false, false, false, false, false, false]) (by kernel_rfl) (by repeat (first | exact ro_refl | exact ro_pre | refine ro_tail ?_ | refine ro_app ?_)) (Val.convI rfl iu5 in3 (w_i64 (by omega) (by omega))) ?_
        | refine TA.take 19 rfl rfl rfl (Nat.le_of_ble_eq_true rfl) (by kernel_rfl) (by kernel_rfl) (by kernel_rfl) (listed' := #[true, true, true, true, true, true, true, true, true, true, true, true, true, true, true, true, true, true, true, true, false, false, false, false, false, false, false]) (by kernel_rfl) (by repeat (first | exact ro_refl | exact ro_pre | refine ro_tail ?_ | refine ro_app ?_)) (Val.convI rfl iu5 in3 rfl) ?_
      refine TA.take 20 rfl rfl rfl (Nat.le_of_ble_eq_true rfl) (by kernel_rfl) (by kernel_rfl) (by kernel_rfl) (listed' := #[true, true, true, true, true, true, true, true, true, true, true, true, true, true, true, true, true, true, true, true, true, false, false, false, false, false, false]) (by kernel_rfl) (by repeat (first | exact ro_refl | exact ro_pre | refine ro_tail ?_ | refine ro_app ?_)) (Val.min rfl rfl (r := (nOf l : Nat)) (by simp only [nOf]; split <;> omega)) ?_
      refine TA.take 21 rfl rfl rfl (Nat.le_of_ble_eq_true rfl) (by kernel_rfl) (by kernel_rfl) (by kernel_rfl) (listed' := #[true, true, true, true, true, true, true, true, true, true, true, true, true, true, true, true, true, true, true, true, true, true, false, false, false, false, false]) (by kernel_rfl) (by repeat (first | exact ro_refl | exact ro_pre | refine ro_tail ?_ | refine ro_app ?_)) (Val.add rfl rfl (r := ((8 + nOf l : Nat) : Int)) (by rw [w_i64 (by omega) (by omega)]; omega)) ?_
      refine TA.take 22 rfl rfl rfl (Nat.le_of_ble_eq_true rfl) (by kernel_rfl) (by kernel_rfl) (by kernel_rfl) (listed' := #[true, true, true, true, true, true, true, true, true, true, true, true, true, true, true, true, true, true, true, true, true, true, true, false, false, false, false]) (by kernel_rfl) (by repeat (first | exact ro_refl | exact ro_pre | refine ro_tail ?_ | refine ro_app ?_)) (Val.sliceAt (i := 8) (j := 8 + nOf l) rfl sl23 sz5 rfl rfl rfl rfl (by omega) (by omega) (by omega) rfl) ?_
      refine TA.two 23 25 (by kernel_rfl) ?_ ?_
      · skip
        refine TO.does (listed' := #[true, true, true, true, true, true, true, true, true, true, true, true, true, true, true, true, true, true, true, true, true, true, true, true, false, false, false]) (some 45) rfl rfl rfl rfl (by kernel_rfl) (Does.callF go25 rfl (Clone_rot (dOf l) _ _ _ _ (.some (by have := ((hR.drop 8).take (nOf l)); rw [← bv_drop, ← bv_take] at this; first | exact (this.cons _) | exact ((this.cons _).cons _))) (by rw [dOf_len hl]; omega) (by rw [dOf_len hl]; simp [nOf]; omega))) ?_
        rintro _ _ ⟨σ, rfl, hok, rfl⟩
        refine ⟨(by repeat (first | exact ro_refl | exact ro_pre | refine ro_tail ?_ | refine ro_app ?_)), ?_⟩
        refine TA.take 24 rfl rfl rfl (Nat.le_of_ble_eq_true rfl) (by kernel_rfl) (by kernel_rfl) (by kernel_rfl) (listed' := #[true, true, true, true, true, true, true, true, true, true, true, true, true, true, true, true, true, true, true, true, true, true, true, true, true, false, false]) (by kernel_rfl) (by repeat (first | exact ro_refl | exact ro_pre | refine ro_tail ?_ | refine ro_app ?_)) (Val.buildS pl31 ze31 rfl rfl) ?_
        refine TA.one 25 (by kernel_rfl) ?_
        refine TO.does (listed' := #[true, true, true, true, true, true, true, true, true, true, true, true, true, true, true, true, true, true, true, true, true, true, true, true, true, true, false]) (some 7) rfl rfl rfl rfl (by kernel_rfl) (Does.alloc ze31 rfl) ?_
        rintro _ _ ⟨b4, rfl, rfl⟩
        refine ⟨(by repeat (first | exact ro_refl | exact ro_pre | refine ro_tail ?_ | refine ro_app ?_)), ?_⟩
        refine TA.one 26 (by kernel_rfl) ?_
        first
          | refine TO.does (listed' := #[true, true, true, true, true, true, true, true, true, true, true, true, true, true, true, true, true, true, true, true, true, true, true, true, true, true, true]) none rfl rfl rfl rfl (by kernel_rfl) (Does.store (i := 0) rfl rfl rfl sz31 rfl rfl (by first | decide | omega) rfl rfl) ?_
          | refine TO.does (listed' := #[true, true, true, true, true, true, true, true, true, true, true, true, true, true, true, true, true, true, true, true, true, true, true, true, true, true, true]) none rfl rfl rfl rfl (by kernel_rfl) (Does.store (i := 1) rfl rfl rfl sz31 rfl rfl (by first | decide | omega) rfl rfl) ?_
          | refine TO.does (listed' := #[true, true, true, true, true, true, true, true, true, true, true, true, true, true, true, true, true, true, true, true, true, true, true, true, true, true, true]) none rfl rfl rfl rfl (by kernel_rfl) (Does.store (i := 2) rfl rfl rfl sz31 rfl rfl (by first | decide | omega) rfl rfl) ?_
          | refine TO.does (listed' := #[true, true, true, true, true, true, true, true, true, true, true, true, true, true, true, true, true, true, true, true, true, true, true, true, true, true, true]) none rfl rfl rfl rfl (by kernel_rfl) (Does.store (i := 3) rfl rfl rfl sz31 rfl rfl (by first | decide | omega) rfl rfl) ?_
          | refine TO.does (listed' := #[true, true, true, true, true, true, true, true, true, true, true, true, true, true, true, true, true, true, true, true, true, true, true, true, true, true, true]) none rfl rfl rfl rfl (by kernel_rfl) (Does.store (i := 4) rfl rfl rfl sz31 rfl rfl (by first | decide | omega) rfl rfl) ?_
          | refine TO.does (listed' := #[true, true, true, true, true, true, true, true, true, true, true, true, true, true, true, true, true, true, true, true, true, true, true, true, true, true, true]) none rfl rfl rfl rfl (by kernel_rfl) (Does.store (i := 5) rfl rfl rfl sz31 rfl rfl (by first | decide | omega) rfl rfl) ?_
        rintro _ _ ⟨rfl, rfl⟩
        refine ⟨(by repeat (first | exact ro_refl | exact ro_pre | refine ro_tail ?_ | refine ro_app ?_)), ?_⟩
        refine TA.done (by kernel_rfl) ?_
        refine AtX.then ?_
        refine TC.env (E' := [(0, _), (2, _), (3, _), (4, _), (7, _)]) (Sub.cons rfl (Sub.cons rfl (Sub.cons rfl (Sub.cons rfl (Sub.cons rfl (Sub.nil _)))))) ?_
        refine TC.seq ?_
        refine TC.seq ?_
        refine TC.region ?_
        first
          | refine TL.val rfl rfl (Nat.le_of_ble_eq_true rfl) (Val.loadAgg 0 rfl ag31 sz31 rfl rfl rfl) ?_
          | refine TL.val rfl rfl (Nat.le_of_ble_eq_true rfl) (Val.loadAgg 1 rfl ag31 sz31 rfl rfl rfl) ?_
          | refine TL.val rfl rfl (Nat.le_of_ble_eq_true rfl) (Val.loadAgg 2 rfl ag31 sz31 rfl rfl rfl) ?_
          | refine TL.val rfl rfl (Nat.le_of_ble_eq_true rfl) (Val.loadAgg 3 rfl ag31 sz31 rfl rfl rfl) ?_
          | refine TL.val rfl rfl (Nat.le_of_ble_eq_true rfl) (Val.loadAgg 4 rfl ag31 sz31 rfl rfl rfl) ?_
          | refine TL.val rfl rfl (Nat.le_of_ble_eq_true rfl) (Val.loadAgg 5 rfl ag31 sz31 rfl rfl rfl) ?_
        refine TL.does (some 49) rfl rfl rfl (Does.callF go10 rfl (Put_no _ _ _ _ _ _ _ (by rw [dOf_len hl]; exact hm))) ?_
        rintro _ _ ⟨rfl, rfl⟩
        refine TL.val rfl rfl (Nat.le_of_ble_eq_true rfl) (Val.move rfl) ?_
        refine TL.val rfl rfl (Nat.le_of_ble_eq_true rfl) (Val.extract rfl rfl) ?_
        refine TL.val rfl rfl (Nat.le_of_ble_eq_true rfl) (Val.extract rfl rfl) ?_
        refine TL.val rfl rfl (Nat.le_of_ble_eq_true rfl) (Val.assign rfl) ?_
        refine TL.val rfl rfl (Nat.le_of_ble_eq_true rfl) (Val.assign rfl) ?_
        refine TL.nil ?_
        refine AtX.then ?_
        refine TC.env (E' := [(0, _), (2, _), (3, _), (4, _), (7, _), (8, _), (9, _)]) (Sub.cons rfl (Sub.cons rfl (Sub.cons rfl (Sub.cons rfl (Sub.cons rfl (Sub.cons rfl (Sub.cons rfl (Sub.nil _)))))))) ?_
        refine TC.seq ?_
        refine TC.region ?_
        refine TL.val rfl rfl (Nat.le_of_ble_eq_true rfl) (Val.move rfl) ?_
        refine TL.val rfl rfl (Nat.le_of_ble_eq_true rfl) (Val.neqI rfl rfl) ?_
        refine TL.val rfl rfl (Nat.le_of_ble_eq_true rfl) (Val.move rfl) ?_
        refine TL.gen (fun g6 hg6 => ?_)
        refine TL.gval rfl rfl (Nat.le_of_ble_eq_true rfl) rfl (Nat.le_of_ble_eq_true rfl) rfl (fun hg => by subst hg; exact (Val.move rfl)) ?_
        refine TL.gval rfl rfl (Nat.le_of_ble_eq_true rfl) rfl (Nat.le_of_ble_eq_true rfl) rfl (fun hg => by subst hg; exact (Val.move rfl)) ?_
        cases g6 with
        | false =>
          simp at hg6
        | true =>
          refine TL.pass rfl rfl (Nat.le_of_ble_eq_true rfl) rfl (Nat.le_of_ble_eq_true rfl) rfl rfl ?_
          refine TL.pass rfl rfl (Nat.le_of_ble_eq_true rfl) rfl (Nat.le_of_ble_eq_true rfl) rfl rfl ?_
          first
            | refine TL.val rfl rfl (Nat.le_of_ble_eq_true rfl) (Val.pickAnd rfl rfl rfl) ?_
            | refine TL.val rfl rfl (Nat.le_of_ble_eq_true rfl) (Val.pickOr rfl rfl rfl) ?_
            | refine TL.val rfl rfl (Nat.le_of_ble_eq_true rfl) (Val.pick rfl rfl rfl) ?_
          refine TL.nil ?_
          refine AtX.then ?_
          refine TC.env (E' := [(2, _), (3, _), (4, _), (7, _), (59, _)]) (Sub.cons rfl (Sub.cons rfl (Sub.cons rfl (Sub.cons rfl (Sub.cons rfl (Sub.nil _)))))) ?_
          first | refine TC.condP rfl (fun c3 => ?_) (fun c3 => ?_) | refine TC.condN rfl (fun c3 => ?_) (fun c3 => ?_) | refine TC.condB rfl (fun c3 => ?_) (fun c3 => ?_) | refine TC.cond rfl (fun c3 => ?_) (fun c3 => ?_)
          · skip
            refine TC.env (E' := [(2, _), (3, _), (4, _), (7, _)]) (Sub.cons rfl (Sub.cons rfl (Sub.cons rfl (Sub.cons rfl (Sub.nil _))))) ?_
            refine TC.seq ?_
            refine TC.region ?_
            refine TL.val rfl rfl (Nat.le_of_ble_eq_true rfl) (Val.buildS pl31 ze31 rfl rfl) ?_
            first
              | refine TL.does none rfl rfl rfl (Does.store (i := 0) rfl rfl rfl sz31 rfl rfl (by first | decide | omega) rfl rfl) ?_
              | refine TL.does none rfl rfl rfl (Does.store (i := 1) rfl rfl rfl sz31 rfl rfl (by first | decide | omega) rfl rfl) ?_
              | refine TL.does none rfl rfl rfl (Does.store (i := 2) rfl rfl rfl sz31 rfl rfl (by first | decide | omega) rfl rfl) ?_
              | refine TL.does none rfl rfl rfl (Does.store (i := 3) rfl rfl rfl sz31 rfl rfl (by first | decide | omega) rfl rfl) ?_
              | refine TL.does none rfl rfl rfl (Does.store (i := 4) rfl rfl rfl sz31 rfl rfl (by first | decide | omega) rfl rfl) ?_
              | refine TL.does none rfl rfl rfl (Does.store (i := 5) rfl rfl rfl sz31 rfl rfl (by first | decide | omega) rfl rfl) ?_
            rintro _ _ ⟨rfl, rfl⟩
            refine TL.val rfl rfl (Nat.le_of_ble_eq_true rfl) (Val.assign rfl) ?_
            refine TL.val rfl rfl (Nat.le_of_ble_eq_true rfl) (Val.assign rfl) ?_
            refine TL.nil ?_
            refine AtX.then ?_
            refine TC.env (E' := [(2, _), (3, _), (4, _), (7, _)]) (Sub.cons rfl (Sub.cons rfl (Sub.cons rfl (Sub.cons rfl (Sub.nil _))))) ?_
            first
              | refine TC.ret3 (fn := Try.f12) (fun _ _ h => h) rfl (RV.agg (i := 0) rfl ag31 sz31 rfl rfl rfl) (RV.tmp rfl) (RV.tmp rfl) (M' := M) (by repeat (first | exact ro_refl | exact ro_pre | refine ro_tail ?_ | refine ro_app ?_)) ?_
              | refine TC.ret3 (fn := Try.f12) (fun _ _ h => h) rfl (RV.agg (i := 1) rfl ag31 sz31 rfl rfl rfl) (RV.tmp rfl) (RV.tmp rfl) (M' := M) (by repeat (first | exact ro_refl | exact ro_pre | refine ro_tail ?_ | refine ro_app ?_)) ?_
              | refine TC.ret3 (fn := Try.f12) (fun _ _ h => h) rfl (RV.agg (i := 2) rfl ag31 sz31 rfl rfl rfl) (RV.tmp rfl) (RV.tmp rfl) (M' := M) (by repeat (first | exact ro_refl | exact ro_pre | refine ro_tail ?_ | refine ro_app ?_)) ?_
              | refine TC.ret3 (fn := Try.f12) (fun _ _ h => h) rfl (RV.agg (i := 3) rfl ag31 sz31 rfl rfl rfl) (RV.tmp rfl) (RV.tmp rfl) (M' := M) (by repeat (first | exact ro_refl | exact ro_pre | refine ro_tail ?_ | refine ro_app ?_)) ?_
              | refine TC.ret3 (fn := Try.f12) (fun _ _ h => h) rfl (RV.agg (i := 4) rfl ag31 sz31 rfl rfl rfl) (RV.tmp rfl) (RV.tmp rfl) (M' := M) (by repeat (first | exact ro_refl | exact ro_pre | refine ro_tail ?_ | refine ro_app ?_)) ?_
              | refine TC.ret3 (fn := Try.f12) (fun _ _ h => h) rfl (RV.agg (i := 5) rfl ag31 sz31 rfl rfl rfl) (RV.tmp rfl) (RV.tmp rfl) (M' := M) (by repeat (first | exact ro_refl | exact ro_pre | refine ro_tail ?_ | refine ro_app ?_)) ?_
            exact ⟨rfl, rfl⟩
          · skip
            cases c3
      · skip
        refine TO.does (listed' := #[true, true, true, true, true, true, true, true, true, true, true, true, true, true, true, true, true, true, true, true, true, true, true, false, false, true, false]) (some 7) rfl rfl rfl rfl (by kernel_rfl) (Does.alloc ze31 rfl) ?_
        rintro _ _ ⟨b7, rfl, rfl⟩
        refine ⟨(by repeat (first | exact ro_refl | exact ro_pre | refine ro_tail ?_ | refine ro_app ?_)), ?_⟩
        refine TA.one 23 (by kernel_rfl) ?_
        refine TO.does (listed' := #[true, true, true, true, true, true, true, true, true, true, true, true, true, true, true, true, true, true, true, true, true, true, true, true, false, true, false]) (some 45) rfl rfl rfl rfl (by kernel_rfl) (Does.callF go25 rfl (Clone_rot (dOf l) _ _ _ _ (.some (by have := ((hR.drop 8).take (nOf l)); rw [← bv_drop, ← bv_take] at this; first | exact (this.cons _) | exact ((this.cons _).cons _))) (by rw [dOf_len hl]; omega) (by rw [dOf_len hl]; simp [nOf]; omega))) ?_
        rintro _ _ ⟨σ, rfl, hok, rfl⟩
        refine ⟨(by repeat (first | exact ro_refl | exact ro_pre | refine ro_tail ?_ | refine ro_app ?_)), ?_⟩
        refine TA.take 24 rfl rfl rfl (Nat.le_of_ble_eq_true rfl) (by kernel_rfl) (by kernel_rfl) (by kernel_rfl) (listed' := #[true, true, true, true, true, true, true, true, true, true, true, true, true, true, true, true, true, true, true, true, true, true, true, true, true, true, false]) (by kernel_rfl) (by repeat (first | exact ro_refl | exact ro_pre | refine ro_tail ?_ | refine ro_app ?_)) (Val.buildS pl31 ze31 rfl rfl) ?_
        refine TA.one 26 (by kernel_rfl) ?_
        first
          | refine TO.does (listed' := #[true, true, true, true, true, true, true, true, true, true, true, true, true, true, true, true, true, true, true, true, true, true, true, true, true, true, true]) none rfl rfl rfl rfl (by kernel_rfl) (Does.store (i := 0) rfl rfl rfl sz31 rfl rfl (by first | decide | omega) rfl rfl) ?_
          | refine TO.does (listed' := #[true, true, true, true, true, true, true, true, true, true, true, true, true, true, true, true, true, true, true, true, true, true, true, true, true, true, true]) none rfl rfl rfl rfl (by kernel_rfl) (Does.store (i := 1) rfl rfl rfl sz31 rfl rfl (by first | decide | omega) rfl rfl) ?_
          | refine TO.does (listed' := #[true, true, true, true, true, true, true, true, true, true, true, true, true, true, true, true, true, true, true, true, true, true, true, true, true, true, true]) none rfl rfl rfl rfl (by kernel_rfl) (Does.store (i := 2) rfl rfl rfl sz31 rfl rfl (by first | decide | omega) rfl rfl) ?_
          | refine TO.does (listed' := #[true, true, true, true, true, true, true, true, true, true, true, true, true, true, true, true, true, true, true, true, true, true, true, true, true, true, true]) none rfl rfl rfl rfl (by kernel_rfl) (Does.store (i := 3) rfl rfl rfl sz31 rfl rfl (by first | decide | omega) rfl rfl) ?_
          | refine TO.does (listed' := #[true, true, true, true, true, true, true, true, true, true, true, true, true, true, true, true, true, true, true, true, true, true, true, true, true, true, true]) none rfl rfl rfl rfl (by kernel_rfl) (Does.store (i := 4) rfl rfl rfl sz31 rfl rfl (by first | decide | omega) rfl rfl) ?_
          | refine TO.does (listed' := #[true, true, true, true, true, true, true, true, true, true, true, true, true, true, true, true, true, true, true, true, true, true, true, true, true, true, true]) none rfl rfl rfl rfl (by kernel_rfl) (Does.store (i := 5) rfl rfl rfl sz31 rfl rfl (by first | decide | omega) rfl rfl) ?_
        rintro _ _ ⟨rfl, rfl⟩
        refine ⟨(by repeat (first | exact ro_refl | exact ro_pre | refine ro_tail ?_ | refine ro_app ?_)), ?_⟩
        refine TA.done (by kernel_rfl) ?_
        refine AtX.then ?_
        refine TC.env (E' := [(0, _), (2, _), (3, _), (4, _), (7, _)]) (Sub.cons rfl (Sub.cons rfl (Sub.cons rfl (Sub.cons rfl (Sub.cons rfl (Sub.nil _)))))) ?_
        refine TC.seq ?_
        refine TC.seq ?_
        refine TC.region ?_
        first
          | refine TL.val rfl rfl (Nat.le_of_ble_eq_true rfl) (Val.loadAgg 0 rfl ag31 sz31 rfl rfl rfl) ?_
          | refine TL.val rfl rfl (Nat.le_of_ble_eq_true rfl) (Val.loadAgg 1 rfl ag31 sz31 rfl rfl rfl) ?_
          | refine TL.val rfl rfl (Nat.le_of_ble_eq_true rfl) (Val.loadAgg 2 rfl ag31 sz31 rfl rfl rfl) ?_
          | refine TL.val rfl rfl (Nat.le_of_ble_eq_true rfl) (Val.loadAgg 3 rfl ag31 sz31 rfl rfl rfl) ?_
          | refine TL.val rfl rfl (Nat.le_of_ble_eq_true rfl) (Val.loadAgg 4 rfl ag31 sz31 rfl rfl rfl) ?_
          | refine TL.val rfl rfl (Nat.le_of_ble_eq_true rfl) (Val.loadAgg 5 rfl ag31 sz31 rfl rfl rfl) ?_
        refine TL.does (some 49) rfl rfl rfl (Does.callF go10 rfl (Put_no _ _ _ _ _ _ _ (by rw [dOf_len hl]; exact hm))) ?_
        rintro _ _ ⟨rfl, rfl⟩
        refine TL.val rfl rfl (Nat.le_of_ble_eq_true rfl) (Val.move rfl) ?_
        refine TL.val rfl rfl (Nat.le_of_ble_eq_true rfl) (Val.extract rfl rfl) ?_
        refine TL.val rfl rfl (Nat.le_of_ble_eq_true rfl) (Val.extract rfl rfl) ?_
        refine TL.val rfl rfl (Nat.le_of_ble_eq_true rfl) (Val.assign rfl) ?_
        refine TL.val rfl rfl (Nat.le_of_ble_eq_true rfl) (Val.assign rfl) ?_
        refine TL.nil ?_
        refine AtX.then ?_
        refine TC.env (E' := [(0, _), (2, _), (3, _), (4, _), (7, _), (8, _), (9, _)]) (Sub.cons rfl (Sub.cons rfl (Sub.cons rfl (Sub.cons rfl (Sub.cons rfl (Sub.cons rfl (Sub.cons rfl (Sub.nil _)))))))) ?_
        refine TC.seq ?_
        refine TC.region ?_
        refine TL.val rfl rfl (Nat.le_of_ble_eq_true rfl) (Val.move rfl) ?_
        refine TL.val rfl rfl (Nat.le_of_ble_eq_true rfl) (Val.neqI rfl rfl) ?_
        refine TL.val rfl rfl (Nat.le_of_ble_eq_true rfl) (Val.move rfl) ?_
        refine TL.gen (fun g10 hg10 => ?_)
        refine TL.gval rfl rfl (Nat.le_of_ble_eq_true rfl) rfl (Nat.le_of_ble_eq_true rfl) rfl (fun hg => by subst hg; exact (Val.move rfl)) ?_
        refine TL.gval rfl rfl (Nat.le_of_ble_eq_true rfl) rfl (Nat.le_of_ble_eq_true rfl) rfl (fun hg => by subst hg; exact (Val.move rfl)) ?_
        cases g10 with
        | false =>
          simp at hg10
        | true =>
          refine TL.pass rfl rfl (Nat.le_of_ble_eq_true rfl) rfl (Nat.le_of_ble_eq_true rfl) rfl rfl ?_
          refine TL.pass rfl rfl (Nat.le_of_ble_eq_true rfl) rfl (Nat.le_of_ble_eq_true rfl) rfl rfl ?_
          first
            | refine TL.val rfl rfl (Nat.le_of_ble_eq_true rfl) (Val.pickAnd rfl rfl rfl) ?_
            | refine TL.val rfl rfl (Nat.le_of_ble_eq_true rfl) (Val.pickOr rfl rfl rfl) ?_
            | refine TL.val rfl rfl (Nat.le_of_ble_eq_true rfl) (Val.pick rfl rfl rfl) ?_
          refine TL.nil ?_
          refine AtX.then ?_
          refine TC.env (E' := [(2, _), (3, _), (4, _), (7, _), (59, _)]) (Sub.cons rfl (Sub.cons rfl (Sub.cons rfl (Sub.cons rfl (Sub.cons rfl (Sub.nil _)))))) ?_
          first | refine TC.condP rfl (fun c4 => ?_) (fun c4 => ?_) | refine TC.condN rfl (fun c4 => ?_) (fun c4 => ?_) | refine TC.condB rfl (fun c4 => ?_) (fun c4 => ?_) | refine TC.cond rfl (fun c4 => ?_) (fun c4 => ?_)
          · skip
            refine TC.env (E' := [(2, _), (3, _), (4, _), (7, _)]) (Sub.cons rfl (Sub.cons rfl (Sub.cons rfl (Sub.cons rfl (Sub.nil _))))) ?_
            refine TC.seq ?_
            refine TC.region ?_
            refine TL.val rfl rfl (Nat.le_of_ble_eq_true rfl) (Val.buildS pl31 ze31 rfl rfl) ?_
            first
              | refine TL.does none rfl rfl rfl (Does.store (i := 0) rfl rfl rfl sz31 rfl rfl (by first | decide | omega) rfl rfl) ?_
              | refine TL.does none rfl rfl rfl (Does.store (i := 1) rfl rfl rfl sz31 rfl rfl (by first | decide | omega) rfl rfl) ?_
              | refine TL.does none rfl rfl rfl (Does.store (i := 2) rfl rfl rfl sz31 rfl rfl (by first | decide | omega) rfl rfl) ?_
              | refine TL.does none rfl rfl rfl (Does.store (i := 3) rfl rfl rfl sz31 rfl rfl (by first | decide | omega) rfl rfl) ?_
              | refine TL.does none rfl rfl rfl (Does.store (i := 4) rfl rfl rfl sz31 rfl rfl (by first | decide | omega) rfl rfl) ?_
              | refine TL.does none rfl rfl rfl (Does.store (i := 5) rfl rfl rfl sz31 rfl rfl (by first | decide | omega) rfl rfl) ?_
            rintro _ _ ⟨rfl, rfl⟩
            refine TL.val rfl rfl (Nat.le_of_ble_eq_true rfl) (Val.assign rfl) ?_
            refine TL.val rfl rfl (Nat.le_of_ble_eq_true rfl) (Val.assign rfl) ?_
            refine TL.nil ?_
            refine AtX.then ?_
            refine TC.env (E' := [(2, _), (3, _), (4, _), (7, _)]) (Sub.cons rfl (Sub.cons rfl (Sub.cons rfl (Sub.cons rfl (Sub.nil _))))) ?_
            first
              | refine TC.ret3 (fn := Try.f12) (fun _ _ h => h) rfl (RV.agg (i := 0) rfl ag31 sz31 rfl rfl rfl) (RV.tmp rfl) (RV.tmp rfl) (M' := M) (by repeat (first | exact ro_refl | exact ro_pre | refine ro_tail ?_ | refine ro_app ?_)) ?_
              | refine TC.ret3 (fn := Try.f12) (fun _ _ h => h) rfl (RV.agg (i := 1) rfl ag31 sz31 rfl rfl rfl) (RV.tmp rfl) (RV.tmp rfl) (M' := M) (by repeat (first | exact ro_refl | exact ro_pre | refine ro_tail ?_ | refine ro_app ?_)) ?_
              | refine TC.ret3 (fn := Try.f12) (fun _ _ h => h) rfl (RV.agg (i := 2) rfl ag31 sz31 rfl rfl rfl) (RV.tmp rfl) (RV.tmp rfl) (M' := M) (by repeat (first | exact ro_refl | exact ro_pre | refine ro_tail ?_ | refine ro_app ?_)) ?_
              | refine TC.ret3 (fn := Try.f12) (fun _ _ h => h) rfl (RV.agg (i := 3) rfl ag31 sz31 rfl rfl rfl) (RV.tmp rfl) (RV.tmp rfl) (M' := M) (by repeat (first | exact ro_refl | exact ro_pre | refine ro_tail ?_ | refine ro_app ?_)) ?_
              | refine TC.ret3 (fn := Try.f12) (fun _ _ h => h) rfl (RV.agg (i := 4) rfl ag31 sz31 rfl rfl rfl) (RV.tmp rfl) (RV.tmp rfl) (M' := M) (by repeat (first | exact ro_refl | exact ro_pre | refine ro_tail ?_ | refine ro_app ?_)) ?_
              | refine TC.ret3 (fn := Try.f12) (fun _ _ h => h) rfl (RV.agg (i := 5) rfl ag31 sz31 rfl rfl rfl) (RV.tmp rfl) (RV.tmp rfl) (M' := M) (by repeat (first | exact ro_refl | exact ro_pre | refine ro_tail ?_ | refine ro_app ?_)) ?_
            exact ⟨rfl, rfl⟩
          · skip
            cases c4

/-- quorumite/log.Get -/
theorem Get_d (l : List UInt8) (A : Option Addr) (n c : Nat) (M : Hp) (hA : RdS M A (bv l)) (hn : n = l.length) (hcap : l.length ≤ c) (hl : l.length = 64) (hw : wholeB l = true) (hm : mayL l = true) : FnC Try.prog 12 #[.slice A n c] M (fun v M' => (againB l ≠ l ∧ v = .tuple #[zeroC, .bool true, .int .i64 12] ∧ M = M') ∨ (againB l = l ∧ ∃ σ, v = .tuple #[.agg #[.int .u32 (passOf l : Nat), .int .i64 (plOf l : Nat), .int .i64 (kdOf l : Nat), .slice (slA σ) (dOf l).length (slC σ)], .bool true, .int .i64 0] ∧ slOk σ 1 (dOf l).length (bv (dOf l)) ∧ M' = M ++ slH σ 5 (bv (dOf l)))) := by
  subst hn
  have h4 : (l.getD 4 0).toNat < 256 := UInt8.toNat_lt _
  have h5 : (l.getD 5 0).toNat < 256 := UInt8.toNat_lt _
  have h6 : (l.getD 6 0).toNat < 256 := UInt8.toNat_lt _
  have h7 : (l.getD 7 0).toNat < 256 := UInt8.toNat_lt _
  have hn48 : nOf l ≤ 48 := by simp only [nOf]; omega
  obtain ⟨b, q, rfl, hR⟩ := RdS.get hA (by simp; omega)
  refine FnC.intro Try.func12 rfl 62 rfl (by simp) (fun z => ?_)
  refine TC.env (E' := [(0, _)]) (Sub.cons rfl (Sub.nil _)) ?_
  refine TC.seq ?_
  refine TC.region ?_
  refine TL.does (some 2) rfl rfl rfl (Does.alloc ze31 rfl) ?_
  rintro _ _ ⟨b1, rfl, rfl⟩
  refine TL.val rfl rfl (Nat.le_of_ble_eq_true rfl) (Val.assign rfl) ?_
  refine TL.val rfl rfl (Nat.le_of_ble_eq_true rfl) (Val.assign rfl) ?_
  refine TL.nil ?_
  refine AtX.then ?_
  refine TC.seq ?_
  refine TC.seq ?_
  refine TC.region ?_
  refine TL.val rfl rfl (Nat.le_of_ble_eq_true rfl) (Val.move rfl) ?_
  refine TL.val rfl rfl (Nat.le_of_ble_eq_true rfl) (Val.lenSl rfl rfl sl23) ?_
  refine TL.val rfl rfl (Nat.le_of_ble_eq_true rfl) (Val.neqI rfl rfl) ?_
  refine TL.nil ?_
  refine AtX.then ?_
  refine TC.env (E' := [(0, _), (2, _), (3, _), (4, _), (12, _)]) (Sub.cons rfl (Sub.cons rfl (Sub.cons rfl (Sub.cons rfl (Sub.cons rfl (Sub.nil _)))))) ?_
  first | refine TC.condP rfl (fun c1 => ?_) (fun c1 => ?_) | refine TC.condN rfl (fun c1 => ?_) (fun c1 => ?_) | refine TC.condB rfl (fun c1 => ?_) (fun c1 => ?_) | refine TC.cond rfl (fun c1 => ?_) (fun c1 => ?_)
  · skip
    omega
  · skip
    refine TC.env (E' := [(0, _), (2, _), (3, _), (4, _)]) (Sub.cons rfl (Sub.cons rfl (Sub.cons rfl (Sub.cons rfl (Sub.nil _))))) ?_
    refine TC.skip ?_
    refine AtX.then ?_
    refine TC.env (E' := [(0, _), (2, _), (3, _), (4, _)]) (Sub.cons rfl (Sub.cons rfl (Sub.cons rfl (Sub.cons rfl (Sub.nil _))))) ?_
    refine TC.seq ?_
    refine TC.region ?_
    refine TL.val rfl rfl (Nat.le_of_ble_eq_true rfl) (Val.move rfl) ?_
    refine TL.does (some 16) rfl rfl rfl (Does.callF go24 rfl (Of_fn l _ _ _ _ (hA.cons _) rfl hl)) ?_
    rintro _ _ ⟨rfl, rfl⟩
    refine TL.val rfl rfl (Nat.le_of_ble_eq_true rfl) (Val.move rfl) ?_
    refine TL.val rfl rfl (Nat.le_of_ble_eq_true rfl) (Val.extract rfl rfl) ?_
    refine TL.val rfl rfl (Nat.le_of_ble_eq_true rfl) (Val.extract rfl rfl) ?_
    refine TL.val rfl rfl (Nat.le_of_ble_eq_true rfl) (Val.assign rfl) ?_
    refine TL.val rfl rfl (Nat.le_of_ble_eq_true rfl) (Val.assign rfl) ?_
    refine TL.nil ?_
    refine AtX.then ?_
    refine TC.env (E' := [(0, _), (2, _), (3, _), (4, _), (5, _), (6, _)]) (Sub.cons rfl (Sub.cons rfl (Sub.cons rfl (Sub.cons rfl (Sub.cons rfl (Sub.cons rfl (Sub.nil _))))))) ?_
    refine TC.seq ?_
    refine TC.seq ?_
    refine TC.region ?_
    refine TL.val rfl rfl (Nat.le_of_ble_eq_true rfl) (Val.move rfl) ?_
    refine TL.val rfl rfl (Nat.le_of_ble_eq_true rfl) (Val.not rfl) ?_
    refine TL.nil ?_
    refine AtX.then ?_
    refine TC.env (E' := [(0, _), (2, _), (3, _), (4, _), (5, _), (20, _)]) (Sub.cons rfl (Sub.cons rfl (Sub.cons rfl (Sub.cons rfl (Sub.cons rfl (Sub.cons rfl (Sub.nil _))))))) ?_
    first | refine TC.condP rfl (fun c2 => ?_) (fun c2 => ?_) | refine TC.condN rfl (fun c2 => ?_) (fun c2 => ?_) | refine TC.condB rfl (fun c2 => ?_) (fun c2 => ?_) | refine TC.cond rfl (fun c2 => ?_) (fun c2 => ?_)
    · skip
      rw [hw] at c2; cases c2
    · skip
      refine TC.env (E' := [(0, _), (2, _), (3, _), (4, _), (5, _)]) (Sub.cons rfl (Sub.cons rfl (Sub.cons rfl (Sub.cons rfl (Sub.cons rfl (Sub.nil _)))))) ?_
      refine TC.skip ?_
      refine AtX.then ?_
      refine TC.env (E' := [(0, _), (2, _), (3, _), (4, _), (5, _)]) (Sub.cons rfl (Sub.cons rfl (Sub.cons rfl (Sub.cons rfl (Sub.cons rfl (Sub.nil _)))))) ?_
      refine TC.seq ?_
      refine TC.draw M mixed ?_
      refine TA.take 0 rfl rfl rfl (Nat.le_of_ble_eq_true rfl) (by kernel_rfl) (by kernel_rfl) (by kernel_rfl) (listed' := #[true, false, false, false, false, false, false, false, false, false, false, false, false, false, false, false, false, false, false, false, false, false, false, false, false, false, false]) (by kernel_rfl) (by repeat (first | exact ro_refl | exact ro_pre | refine ro_tail ?_ | refine ro_app ?_)) (Val.move rfl) ?_
      refine TA.take 1 rfl rfl rfl (Nat.le_of_ble_eq_true rfl) (by kernel_rfl) (by kernel_rfl) (by kernel_rfl) (listed' := #[true, true, false, false, false, false, false, false, false, false, false, false, false, false, false, false, false, false, false, false, false, false, false, false, false, false, false]) (by kernel_rfl) (by repeat (first | exact ro_refl | exact ro_pre | refine ro_tail ?_ | refine ro_app ?_)) (Val.move rfl) ?_
      refine TA.take 2 rfl rfl rfl (Nat.le_of_ble_eq_true rfl) (by kernel_rfl) (by kernel_rfl) (by kernel_rfl) (listed' := #[true, true, true, false, false, false, false, false, false, false, false, false, false, false, false, false, false, false, false, false, false, false, false, false, false, false, false]) (by kernel_rfl) (by repeat (first | exact ro_refl | exact ro_pre | refine ro_tail ?_ | refine ro_app ?_)) (Val.indexAddr (i := 4) rfl rfl sl23 sz5 rfl (by first | decide | omega) rfl) ?_
      refine TA.take 3 rfl rfl rfl (Nat.le_of_ble_eq_true rfl) (by kernel_rfl) (by kernel_rfl) (by kernel_rfl) (listed' := #[true, true, true, true, false, false, false, false, false, false, false, false, false, false, false, false, false, false, false, false, false, false, false, false, false, false, false]) (by kernel_rfl) (by repeat (first | exact ro_refl | exact ro_pre | refine ro_tail ?_ | refine ro_app ?_)) (Val.loadB 4 rfl ag5 hR (by simp) (by omega)) ?_
      first
        | refine TA.take 4 rfl rfl rfl (Nat.le_of_ble_eq_true rfl) (by kernel_rfl) (by kernel_rfl) (by kernel_rfl) (listed' := #[true, true, true, true, true, false, false, false, false, false, false, false, false, false, false, false, false, false, false, false, false, false, false, false, false, false, false]) (by kernel_rfl) (by repeat (first | exact ro_refl | exact ro_pre | refine ro_tail ?_ | refine ro_app ?_)) (Val.convI rfl iu5 in3 (w_i64 (by omega) (by omega))) ?_
        | refine TA.take 4 rfl rfl rfl (Nat.le_of_ble_eq_true rfl) (by kernel_rfl) (by kernel_rfl) (by kernel_rfl) (listed' := #[true, true, true, true, true, false, false, false, false, false, false, false, false, false, false, false, false, false, false, false, false, false, false, false, false, false, false]) (by kernel_rfl) (by repeat (first | exact ro_refl | exact ro_pre | refine ro_tail ?_ | refine ro_app ?_)) (Val.convI rfl iu5 in3 rfl) ?_
      refine TA.take 5 rfl rfl rfl (Nat.le_of_ble_eq_true rfl) (by kernel_rfl) (by kernel_rfl) (by kernel_rfl) (listed' := #[true, true, true, true, true, true, false, false, false, false, false, false, false, false, false, false, false, false, false, false, false, false, false, false, false, false, false]) (by kernel_rfl) (by repeat (first | exact ro_refl | exact ro_pre | refine ro_tail ?_ | refine ro_app ?_)) (Val.move rfl) ?_
      refine TA.take 6 rfl rfl rfl (Nat.le_of_ble_eq_true rfl) (by kernel_rfl) (by kernel_rfl) (by kernel_rfl) (listed' := #[true, true, true, true, true, true, true, false, false, false, false, false, false, false, false, false, false, false, false, false, false, false, false, false, false, false, false]) (by kernel_rfl) (by repeat (first | exact ro_refl | exact ro_pre | refine ro_tail ?_ | refine ro_app ?_)) (Val.indexAddr (i := 5) rfl rfl sl23 sz5 rfl (by first | decide | omega) rfl) ?_
      refine TA.take 7 rfl rfl rfl (Nat.le_of_ble_eq_true rfl) (by kernel_rfl) (by kernel_rfl) (by kernel_rfl) (listed' := #[true, true, true, true, true, true, true, true, false, false, false, false, false, false, false, false, false, false, false, false, false, false, false, false, false, false, false]) (by kernel_rfl) (by repeat (first | exact ro_refl | exact ro_pre | refine ro_tail ?_ | refine ro_app ?_)) (Val.loadB 5 rfl ag5 hR (by simp) (by omega)) ?_
      first
        | refine TA.take 8 rfl rfl rfl (Nat.le_of_ble_eq_true rfl) (by kernel_rfl) (by kernel_rfl) (by kernel_rfl) (listed' := #[true, true, true, true, true, true, true, true, true, false, false, false, false, false, false, false, false, false, false, false, false, false, false, false, false, false, false]) (by kernel_rfl) (by repeat (first | exact ro_refl | exact ro_pre | refine ro_tail ?_ | refine ro_app ?_)) (Val.convI rfl iu5 in3 (w_i64 (by omega) (by omega))) ?_
        | refine TA.take 8 rfl rfl rfl (Nat.le_of_ble_eq_true rfl) (by kernel_rfl) (by kernel_rfl) (by kernel_rfl) (listed' := #[true, true, true, true, true, true, true, true, true, false, false, false, false, false, false, false, false, false, false, false, false, false, false, false, false, false, false]) (by kernel_rfl) (by repeat (first | exact ro_refl | exact ro_pre | refine ro_tail ?_ | refine ro_app ?_)) (Val.convI rfl iu5 in3 rfl) ?_
      refine TA.take 9 rfl rfl rfl (Nat.le_of_ble_eq_true rfl) (by kernel_rfl) (by kernel_rfl) (by kernel_rfl) (listed' := #[true, true, true, true, true, true, true, true, true, true, false, false, false, false, false, false, false, false, false, false, false, false, false, false, false, false, false]) (by kernel_rfl) (by repeat (first | exact ro_refl | exact ro_pre | refine ro_tail ?_ | refine ro_app ?_)) (Val.shl rfl rfl (by omega) (shl_pl h5)) ?_
      refine TA.take 10 rfl rfl rfl (Nat.le_of_ble_eq_true rfl) (by kernel_rfl) (by kernel_rfl) (by kernel_rfl) (listed' := #[true, true, true, true, true, true, true, true, true, true, true, false, false, false, false, false, false, false, false, false, false, false, false, false, false, false, false]) (by kernel_rfl) (by repeat (first | exact ro_refl | exact ro_pre | refine ro_tail ?_ | refine ro_app ?_)) (Val.or rfl rfl (r := (plOf l : Nat)) (or_pl h4 h5)) ?_
      refine TA.take 11 rfl rfl rfl (Nat.le_of_ble_eq_true rfl) (by kernel_rfl) (by kernel_rfl) (by kernel_rfl) (listed' := #[true, true, true, true, true, true, true, true, true, true, true, true, false, false, false, false, false, false, false, false, false, false, false, false, false, false, false]) (by kernel_rfl) (by repeat (first | exact ro_refl | exact ro_pre | refine ro_tail ?_ | refine ro_app ?_)) (Val.move rfl) ?_
      refine TA.take 12 rfl rfl rfl (Nat.le_of_ble_eq_true rfl) (by kernel_rfl) (by kernel_rfl) (by kernel_rfl) (listed' := #[true, true, true, true, true, true, true, true, true, true, true, true, true, false, false, false, false, false, false, false, false, false, false, false, false, false, false]) (by kernel_rfl) (by repeat (first | exact ro_refl | exact ro_pre | refine ro_tail ?_ | refine ro_app ?_)) (Val.indexAddr (i := 6) rfl rfl sl23 sz5 rfl (by first | decide | omega) rfl) ?_
      refine TA.take 13 rfl rfl rfl (Nat.le_of_ble_eq_true rfl) (by kernel_rfl) (by kernel_rfl) (by kernel_rfl) (listed' := #[true, true, true, true, true, true, true, true, true, true, true, true, true, true, false, false, false, false, false, false, false, false, false, false, false, false, false]) (by kernel_rfl) (by repeat (first | exact ro_refl | exact ro_pre | refine ro_tail ?_ | refine ro_app ?_)) (Val.loadB 6 rfl ag5 hR (by simp) (by omega)) ?_
      first
        | refine TA.take 14 rfl rfl rfl (Nat.le_of_ble_eq_true rfl) (by kernel_rfl) (by kernel_rfl) (by kernel_rfl) (listed' := #[true, true, true, true, true, true, true, true, true, true, true, true, true, true, true, false, false, false, false, false, false, false, false, false, false, false, false]) (by kernel_rfl) (by repeat (first | exact ro_refl | exact ro_pre | refine ro_tail ?_ | refine ro_app ?_)) (Val.convI rfl iu5 in3 (w_i64 (by omega) (by omega))) ?_
        | refine TA.take 14 rfl rfl rfl (Nat.le_of_ble_eq_true rfl) (by kernel_rfl) (by kernel_rfl) (by kernel_rfl) (listed' := #[true, true, true, true, true, true, true, true, true, true, true, true, true, true, true, false, false, false, false, false, false, false, false, false, false, false, false]) (by kernel_rfl) (by repeat (first | exact ro_refl | exact ro_pre | refine ro_tail ?_ | refine ro_app ?_)) (Val.convI rfl iu5 in3 rfl) ?_
      refine TA.take 15 rfl rfl rfl (Nat.le_of_ble_eq_true rfl) (by kernel_rfl) (by kernel_rfl) (by kernel_rfl) (listed' := #[true, true, true, true, true, true, true, true, true, true, true, true, true, true, true, true, false, false, false, false, false, false, false, false, false, false, false]) (by kernel_rfl) (by repeat (first | exact ro_refl | exact ro_pre | refine ro_tail ?_ | refine ro_app ?_)) (Val.move rfl) ?_
      refine TA.take 16 rfl rfl rfl (Nat.le_of_ble_eq_true rfl) (by kernel_rfl) (by kernel_rfl) (by kernel_rfl) (listed' := #[true, true, true, true, true, true, true, true, true, true, true, true, true, true, true, true, true, false, false, false, false, false, false, false, false, false, false]) (by kernel_rfl) (by repeat (first | exact ro_refl | exact ro_pre | refine ro_tail ?_ | refine ro_app ?_)) (Val.move rfl) ?_
      refine TA.take 17 rfl rfl rfl (Nat.le_of_ble_eq_true rfl) (by kernel_rfl) (by kernel_rfl) (by kernel_rfl) (listed' := #[true, true, true, true, true, true, true, true, true, true, true, true, true, true, true, true, true, true, false, false, false, false, false, false, false, false, false]) (by kernel_rfl) (by repeat (first | exact ro_refl | exact ro_pre | refine ro_tail ?_ | refine ro_app ?_)) (Val.indexAddr (i := 7) rfl rfl sl23 sz5 rfl (by first | decide | omega) rfl) ?_
      refine TA.take 18 rfl rfl rfl (Nat.le_of_ble_eq_true rfl) (by kernel_rfl) (by kernel_rfl) (by kernel_rfl) (listed' := #[true, true, true, true, true, true, true, true, true, true, true, true, true, true, true, true, true, true, true, false, false, false, false, false, false, false, false]) (by kernel_rfl) (by repeat (first | exact ro_refl | exact ro_pre | refine ro_tail ?_ | refine ro_app ?_)) (Val.loadB 7 rfl ag5 hR (by simp) (by omega)) ?_
      first
        | refine TA.take 19 rfl rfl rfl (Nat.le_of_ble_eq_true rfl) (by kernel_rfl) (by kernel_rfl) (by kernel_rfl) (listed' := #[true, true, true, true, true, true, true, true, true, true, true, true, true, true, true, true, true, true, true, true, false, false, false, false, false, false, false]) (by kernel_rfl) (by repeat (first | exact ro_refl | exact ro_pre | refine ro_tail ?_ | refine ro_app ?_)) (Val.convI rfl iu5 in3 (w_i64 (by omega) (by omega))) ?_
        | refine TA.take 19 rfl rfl rfl (Nat.le_of_ble_eq_true rfl) (by kernel_rfl) (by kernel_rfl) (by kernel_rfl) (listed' := #[true, true, true, true, true, true, true, true, true, true, true, true, true, true, true, true, true, true, true, true, false, false, false, false, false, false, false]) (by kernel_rfl) (by repeat (first | exact ro_refl | exact ro_pre | refine ro_tail ?_ | refine ro_app ?_)) (Val.convI rfl iu5 in3 rfl) ?_
      refine TA.take 20 rfl rfl rfl (Nat.le_of_ble_eq_true rfl) (by kernel_rfl) (by kernel_rfl) (by kernel_rfl) (listed' := #[true, true, true, true, true, true, true, true, true, true, true, true, true, true, true, true, true, true, true, true, true, false, false, false, false, false, false]) (by kernel_rfl) (by repeat (first | exact ro_refl | exact ro_pre | refine ro_tail ?_ | refine ro_app ?_)) (Val.min rfl rfl (r := (nOf l : Nat)) (by simp only [nOf]; split <;> omega)) ?_
      refine TA.take 21 rfl rfl rfl (Nat.le_of_ble_eq_true rfl) (by kernel_rfl) (by kernel_rfl) (by kernel_rfl) (listed' := #[true, true, true, true, true, true, true, true, true, true, true, true, true, true, true, true, true, true, true, true, true, true, false, false, false, false, false]) (by kernel_rfl) (by repeat (first | exact ro_refl | exact ro_pre | refine ro_tail ?_ | refine ro_app ?_)) (Val.add rfl rfl (r := ((8 + nOf l : Nat) : Int)) (by rw [w_i64 (by omega) (by omega)]; omega)) ?_
      refine TA.take 22 rfl rfl rfl (Nat.le_of_ble_eq_true rfl) (by kernel_rfl) (by kernel_rfl) (by kernel_rfl) (listed' := #[true, true, true, true, true, true, true, true, true, true, true, true, true, true, true, true, true, true, true, true, true, true, true, false, false, false, false]) (by kernel_rfl) (by repeat (first | exact ro_refl | exact ro_pre | refine ro_tail ?_ | refine ro_app ?_)) (Val.sliceAt (i := 8) (j := 8 + nOf l) rfl sl23 sz5 rfl rfl rfl rfl (by omega) (by omega) (by omega) rfl) ?_
      refine TA.two 23 25 (by kernel_rfl) ?_ ?_
      · skip
        refine TO.does (listed' := #[true, true, true, true, true, true, true, true, true, true, true, true, true, true, true, true, true, true, true, true, true, true, true, true, false, false, false]) (some 45) rfl rfl rfl rfl (by kernel_rfl) (Does.callF go25 rfl (Clone_rot (dOf l) _ _ _ _ (.some (by have := ((hR.drop 8).take (nOf l)); rw [← bv_drop, ← bv_take] at this; first | exact (this.cons _) | exact ((this.cons _).cons _))) (by rw [dOf_len hl]; omega) (by rw [dOf_len hl]; simp [nOf]; omega))) ?_
        rintro _ _ ⟨σ, rfl, hok, rfl⟩
        refine ⟨(by repeat (first | exact ro_refl | exact ro_pre | refine ro_tail ?_ | refine ro_app ?_)), ?_⟩
        refine TA.take 24 rfl rfl rfl (Nat.le_of_ble_eq_true rfl) (by kernel_rfl) (by kernel_rfl) (by kernel_rfl) (listed' := #[true, true, true, true, true, true, true, true, true, true, true, true, true, true, true, true, true, true, true, true, true, true, true, true, true, false, false]) (by kernel_rfl) (by repeat (first | exact ro_refl | exact ro_pre | refine ro_tail ?_ | refine ro_app ?_)) (Val.buildS pl31 ze31 rfl rfl) ?_
        refine TA.one 25 (by kernel_rfl) ?_
        refine TO.does (listed' := #[true, true, true, true, true, true, true, true, true, true, true, true, true, true, true, true, true, true, true, true, true, true, true, true, true, true, false]) (some 7) rfl rfl rfl rfl (by kernel_rfl) (Does.alloc ze31 rfl) ?_
        rintro _ _ ⟨b4, rfl, rfl⟩
        refine ⟨(by repeat (first | exact ro_refl | exact ro_pre | refine ro_tail ?_ | refine ro_app ?_)), ?_⟩
        refine TA.one 26 (by kernel_rfl) ?_
        first
          | refine TO.does (listed' := #[true, true, true, true, true, true, true, true, true, true, true, true, true, true, true, true, true, true, true, true, true, true, true, true, true, true, true]) none rfl rfl rfl rfl (by kernel_rfl) (Does.store (i := 0) rfl rfl rfl sz31 rfl rfl (by first | decide | omega) rfl rfl) ?_
          | refine TO.does (listed' := #[true, true, true, true, true, true, true, true, true, true, true, true, true, true, true, true, true, true, true, true, true, true, true, true, true, true, true]) none rfl rfl rfl rfl (by kernel_rfl) (Does.store (i := 1) rfl rfl rfl sz31 rfl rfl (by first | decide | omega) rfl rfl) ?_
          | refine TO.does (listed' := #[true, true, true, true, true, true, true, true, true, true, true, true, true, true, true, true, true, true, true, true, true, true, true, true, true, true, true]) none rfl rfl rfl rfl (by kernel_rfl) (Does.store (i := 2) rfl rfl rfl sz31 rfl rfl (by first | decide | omega) rfl rfl) ?_
          | refine TO.does (listed' := #[true, true, true, true, true, true, true, true, true, true, true, true, true, true, true, true, true, true, true, true, true, true, true, true, true, true, true]) none rfl rfl rfl rfl (by kernel_rfl) (Does.store (i := 3) rfl rfl rfl sz31 rfl rfl (by first | decide | omega) rfl rfl) ?_
          | refine TO.does (listed' := #[true, true, true, true, true, true, true, true, true, true, true, true, true, true, true, true, true, true, true, true, true, true, true, true, true, true, true]) none rfl rfl rfl rfl (by kernel_rfl) (Does.store (i := 4) rfl rfl rfl sz31 rfl rfl (by first | decide | omega) rfl rfl) ?_
          | refine TO.does (listed' := #[true, true, true, true, true, true, true, true, true, true, true, true, true, true, true, true, true, true, true, true, true, true, true, true, true, true, true]) none rfl rfl rfl rfl (by kernel_rfl) (Does.store (i := 5) rfl rfl rfl sz31 rfl rfl (by first | decide | omega) rfl rfl) ?_
        rintro _ _ ⟨rfl, rfl⟩
        refine ⟨(by repeat (first | exact ro_refl | exact ro_pre | refine ro_tail ?_ | refine ro_app ?_)), ?_⟩
        refine TA.done (by kernel_rfl) ?_
        refine AtX.then ?_
        refine TC.env (E' := [(0, _), (2, _), (3, _), (4, _), (7, _)]) (Sub.cons rfl (Sub.cons rfl (Sub.cons rfl (Sub.cons rfl (Sub.cons rfl (Sub.nil _)))))) ?_
        refine TC.seq ?_
        refine TC.seq ?_
        refine TC.region ?_
        first
          | refine TL.val rfl rfl (Nat.le_of_ble_eq_true rfl) (Val.loadAgg 0 rfl ag31 sz31 rfl rfl rfl) ?_
          | refine TL.val rfl rfl (Nat.le_of_ble_eq_true rfl) (Val.loadAgg 1 rfl ag31 sz31 rfl rfl rfl) ?_
          | refine TL.val rfl rfl (Nat.le_of_ble_eq_true rfl) (Val.loadAgg 2 rfl ag31 sz31 rfl rfl rfl) ?_
          | refine TL.val rfl rfl (Nat.le_of_ble_eq_true rfl) (Val.loadAgg 3 rfl ag31 sz31 rfl rfl rfl) ?_
          | refine TL.val rfl rfl (Nat.le_of_ble_eq_true rfl) (Val.loadAgg 4 rfl ag31 sz31 rfl rfl rfl) ?_
          | refine TL.val rfl rfl (Nat.le_of_ble_eq_true rfl) (Val.loadAgg 5 rfl ag31 sz31 rfl rfl rfl) ?_
        refine TL.does (some 49) rfl rfl rfl (Does.callF go10 rfl (Put_fn _ _ _ (dOf l) _ _ _ _ (slRd hok (fun x h => by first | exact List.mem_append_right _ h | exact List.mem_cons_of_mem _ (List.mem_append_right _ h) | exact List.mem_cons_of_mem _ (List.mem_cons_of_mem _ (List.mem_append_right _ h)))) rfl (by rw [dOf_len hl]; exact hm))) ?_
        rintro _ _ ⟨b8, c8, sp8, rfl, hc8, rfl⟩
        refine TL.val rfl rfl (Nat.le_of_ble_eq_true rfl) (Val.move rfl) ?_
        refine TL.val rfl rfl (Nat.le_of_ble_eq_true rfl) (Val.extract rfl rfl) ?_
        refine TL.val rfl rfl (Nat.le_of_ble_eq_true rfl) (Val.extract rfl rfl) ?_
        refine TL.val rfl rfl (Nat.le_of_ble_eq_true rfl) (Val.assign rfl) ?_
        refine TL.val rfl rfl (Nat.le_of_ble_eq_true rfl) (Val.assign rfl) ?_
        refine TL.nil ?_
        refine AtX.then ?_
        refine TC.env (E' := [(0, _), (2, _), (3, _), (4, _), (7, _), (8, _), (9, _)]) (Sub.cons rfl (Sub.cons rfl (Sub.cons rfl (Sub.cons rfl (Sub.cons rfl (Sub.cons rfl (Sub.cons rfl (Sub.nil _)))))))) ?_
        refine TC.seq ?_
        refine TC.region ?_
        refine TL.val rfl rfl (Nat.le_of_ble_eq_true rfl) (Val.move rfl) ?_
        refine TL.val rfl rfl (Nat.le_of_ble_eq_true rfl) (Val.neqI rfl rfl) ?_
        refine TL.val rfl rfl (Nat.le_of_ble_eq_true rfl) (Val.move rfl) ?_
        refine TL.gen (fun g6 hg6 => ?_)
        refine TL.gval rfl rfl (Nat.le_of_ble_eq_true rfl) rfl (Nat.le_of_ble_eq_true rfl) rfl (fun hg => by subst hg; exact (Val.move rfl)) ?_
        refine TL.gval rfl rfl (Nat.le_of_ble_eq_true rfl) rfl (Nat.le_of_ble_eq_true rfl) rfl (fun hg => by subst hg; exact (Val.move rfl)) ?_
        cases g6 with
        | false =>
          refine TL.doesYes (some 57) rfl rfl rfl (Nat.le_of_ble_eq_true rfl) rfl rfl (Does.callF go26 rfl (Equal_fn (againB l) l _ _ _ _ _ _ _ (rd_all (i := 0) rfl) (by first | exact ((hA.pre _).cons _).cons _ | exact (((hA.pre _).cons _).cons _).cons _) (by rw [againB, cellB_len _ _ _ _ (by rw [dOf_len hl]; exact hn48)]) rfl)) ?_
          rintro _ _ ⟨ge, hge, rfl, rfl⟩
          refine TL.valYes rfl rfl (Nat.le_of_ble_eq_true rfl) rfl (Nat.le_of_ble_eq_true rfl) rfl (Val.not rfl) ?_
          first
            | refine TL.val rfl rfl (Nat.le_of_ble_eq_true rfl) (Val.pickAnd rfl rfl rfl) ?_
            | refine TL.val rfl rfl (Nat.le_of_ble_eq_true rfl) (Val.pickOr rfl rfl rfl) ?_
            | refine TL.val rfl rfl (Nat.le_of_ble_eq_true rfl) (Val.pick rfl rfl rfl) ?_
          refine TL.nil ?_
          refine AtX.then ?_
          refine TC.env (E' := [(2, _), (3, _), (4, _), (7, _), (59, _)]) (Sub.cons rfl (Sub.cons rfl (Sub.cons rfl (Sub.cons rfl (Sub.cons rfl (Sub.nil _)))))) ?_
          first | refine TC.condP rfl (fun c3 => ?_) (fun c3 => ?_) | refine TC.condN rfl (fun c3 => ?_) (fun c3 => ?_) | refine TC.condB rfl (fun c3 => ?_) (fun c3 => ?_) | refine TC.cond rfl (fun c3 => ?_) (fun c3 => ?_)
          · skip
            refine TC.env (E' := [(2, _), (3, _), (4, _), (7, _)]) (Sub.cons rfl (Sub.cons rfl (Sub.cons rfl (Sub.cons rfl (Sub.nil _))))) ?_
            refine TC.seq ?_
            refine TC.region ?_
            refine TL.val rfl rfl (Nat.le_of_ble_eq_true rfl) (Val.buildS pl31 ze31 rfl rfl) ?_
            first
              | refine TL.does none rfl rfl rfl (Does.store (i := 0) rfl rfl rfl sz31 rfl rfl (by first | decide | omega) rfl rfl) ?_
              | refine TL.does none rfl rfl rfl (Does.store (i := 1) rfl rfl rfl sz31 rfl rfl (by first | decide | omega) rfl rfl) ?_
              | refine TL.does none rfl rfl rfl (Does.store (i := 2) rfl rfl rfl sz31 rfl rfl (by first | decide | omega) rfl rfl) ?_
              | refine TL.does none rfl rfl rfl (Does.store (i := 3) rfl rfl rfl sz31 rfl rfl (by first | decide | omega) rfl rfl) ?_
              | refine TL.does none rfl rfl rfl (Does.store (i := 4) rfl rfl rfl sz31 rfl rfl (by first | decide | omega) rfl rfl) ?_
              | refine TL.does none rfl rfl rfl (Does.store (i := 5) rfl rfl rfl sz31 rfl rfl (by first | decide | omega) rfl rfl) ?_
            rintro _ _ ⟨rfl, rfl⟩
            refine TL.val rfl rfl (Nat.le_of_ble_eq_true rfl) (Val.assign rfl) ?_
            refine TL.val rfl rfl (Nat.le_of_ble_eq_true rfl) (Val.assign rfl) ?_
            refine TL.nil ?_
            refine AtX.then ?_
            refine TC.env (E' := [(2, _), (3, _), (4, _), (7, _)]) (Sub.cons rfl (Sub.cons rfl (Sub.cons rfl (Sub.cons rfl (Sub.nil _))))) ?_
            first
              | refine TC.ret3 (fn := Try.f12) (fun _ _ h => h) rfl (RV.agg (i := 0) rfl ag31 sz31 rfl rfl rfl) (RV.tmp rfl) (RV.tmp rfl) (M' := M) (by repeat (first | exact ro_refl | exact ro_pre | refine ro_tail ?_ | refine ro_app ?_)) ?_
              | refine TC.ret3 (fn := Try.f12) (fun _ _ h => h) rfl (RV.agg (i := 1) rfl ag31 sz31 rfl rfl rfl) (RV.tmp rfl) (RV.tmp rfl) (M' := M) (by repeat (first | exact ro_refl | exact ro_pre | refine ro_tail ?_ | refine ro_app ?_)) ?_
              | refine TC.ret3 (fn := Try.f12) (fun _ _ h => h) rfl (RV.agg (i := 2) rfl ag31 sz31 rfl rfl rfl) (RV.tmp rfl) (RV.tmp rfl) (M' := M) (by repeat (first | exact ro_refl | exact ro_pre | refine ro_tail ?_ | refine ro_app ?_)) ?_
              | refine TC.ret3 (fn := Try.f12) (fun _ _ h => h) rfl (RV.agg (i := 3) rfl ag31 sz31 rfl rfl rfl) (RV.tmp rfl) (RV.tmp rfl) (M' := M) (by repeat (first | exact ro_refl | exact ro_pre | refine ro_tail ?_ | refine ro_app ?_)) ?_
              | refine TC.ret3 (fn := Try.f12) (fun _ _ h => h) rfl (RV.agg (i := 4) rfl ag31 sz31 rfl rfl rfl) (RV.tmp rfl) (RV.tmp rfl) (M' := M) (by repeat (first | exact ro_refl | exact ro_pre | refine ro_tail ?_ | refine ro_app ?_)) ?_
              | refine TC.ret3 (fn := Try.f12) (fun _ _ h => h) rfl (RV.agg (i := 5) rfl ag31 sz31 rfl rfl rfl) (RV.tmp rfl) (RV.tmp rfl) (M' := M) (by repeat (first | exact ro_refl | exact ro_pre | refine ro_tail ?_ | refine ro_app ?_)) ?_
            first
              | exact .inl ⟨by rw [hge] at c3; simpa using c3, rfl, rfl⟩
              | exact .inr ⟨by rw [hge] at c3; simpa using c3, σ, rfl, hok, rfl⟩
          · skip
            refine TC.env (E' := [(2, _), (3, _), (4, _), (7, _)]) (Sub.cons rfl (Sub.cons rfl (Sub.cons rfl (Sub.cons rfl (Sub.nil _))))) ?_
            refine TC.skip ?_
            refine AtX.then ?_
            refine TC.env (E' := [(2, _), (3, _), (4, _), (7, _)]) (Sub.cons rfl (Sub.cons rfl (Sub.cons rfl (Sub.cons rfl (Sub.nil _))))) ?_
            refine TC.seq ?_
            refine TC.region ?_
            first
              | refine TL.val rfl rfl (Nat.le_of_ble_eq_true rfl) (Val.loadAgg 0 rfl ag31 sz31 rfl rfl rfl) ?_
              | refine TL.val rfl rfl (Nat.le_of_ble_eq_true rfl) (Val.loadAgg 1 rfl ag31 sz31 rfl rfl rfl) ?_
              | refine TL.val rfl rfl (Nat.le_of_ble_eq_true rfl) (Val.loadAgg 2 rfl ag31 sz31 rfl rfl rfl) ?_
              | refine TL.val rfl rfl (Nat.le_of_ble_eq_true rfl) (Val.loadAgg 3 rfl ag31 sz31 rfl rfl rfl) ?_
              | refine TL.val rfl rfl (Nat.le_of_ble_eq_true rfl) (Val.loadAgg 4 rfl ag31 sz31 rfl rfl rfl) ?_
              | refine TL.val rfl rfl (Nat.le_of_ble_eq_true rfl) (Val.loadAgg 5 rfl ag31 sz31 rfl rfl rfl) ?_
            first
              | refine TL.does none rfl rfl rfl (Does.store (i := 0) rfl rfl rfl sz31 rfl rfl (by first | decide | omega) rfl rfl) ?_
              | refine TL.does none rfl rfl rfl (Does.store (i := 1) rfl rfl rfl sz31 rfl rfl (by first | decide | omega) rfl rfl) ?_
              | refine TL.does none rfl rfl rfl (Does.store (i := 2) rfl rfl rfl sz31 rfl rfl (by first | decide | omega) rfl rfl) ?_
              | refine TL.does none rfl rfl rfl (Does.store (i := 3) rfl rfl rfl sz31 rfl rfl (by first | decide | omega) rfl rfl) ?_
              | refine TL.does none rfl rfl rfl (Does.store (i := 4) rfl rfl rfl sz31 rfl rfl (by first | decide | omega) rfl rfl) ?_
              | refine TL.does none rfl rfl rfl (Does.store (i := 5) rfl rfl rfl sz31 rfl rfl (by first | decide | omega) rfl rfl) ?_
            rintro _ _ ⟨rfl, rfl⟩
            refine TL.val rfl rfl (Nat.le_of_ble_eq_true rfl) (Val.assign rfl) ?_
            refine TL.val rfl rfl (Nat.le_of_ble_eq_true rfl) (Val.assign rfl) ?_
            refine TL.nil ?_
            refine AtX.then ?_
            refine TC.env (E' := [(2, _), (3, _), (4, _)]) (Sub.cons rfl (Sub.cons rfl (Sub.cons rfl (Sub.nil _)))) ?_
            first
              | refine TC.ret3 (fn := Try.f12) (fun _ _ h => h) rfl (RV.agg (i := 0) rfl ag31 sz31 rfl rfl rfl) (RV.tmp rfl) (RV.tmp rfl) (M' := M ++ slH σ 5 (bv (dOf l))) (by repeat (first | exact ro_refl | exact ro_pre | refine ro_tail ?_ | refine ro_app ?_)) ?_
              | refine TC.ret3 (fn := Try.f12) (fun _ _ h => h) rfl (RV.agg (i := 1) rfl ag31 sz31 rfl rfl rfl) (RV.tmp rfl) (RV.tmp rfl) (M' := M ++ slH σ 5 (bv (dOf l))) (by repeat (first | exact ro_refl | exact ro_pre | refine ro_tail ?_ | refine ro_app ?_)) ?_
              | refine TC.ret3 (fn := Try.f12) (fun _ _ h => h) rfl (RV.agg (i := 2) rfl ag31 sz31 rfl rfl rfl) (RV.tmp rfl) (RV.tmp rfl) (M' := M ++ slH σ 5 (bv (dOf l))) (by repeat (first | exact ro_refl | exact ro_pre | refine ro_tail ?_ | refine ro_app ?_)) ?_
              | refine TC.ret3 (fn := Try.f12) (fun _ _ h => h) rfl (RV.agg (i := 3) rfl ag31 sz31 rfl rfl rfl) (RV.tmp rfl) (RV.tmp rfl) (M' := M ++ slH σ 5 (bv (dOf l))) (by repeat (first | exact ro_refl | exact ro_pre | refine ro_tail ?_ | refine ro_app ?_)) ?_
              | refine TC.ret3 (fn := Try.f12) (fun _ _ h => h) rfl (RV.agg (i := 4) rfl ag31 sz31 rfl rfl rfl) (RV.tmp rfl) (RV.tmp rfl) (M' := M ++ slH σ 5 (bv (dOf l))) (by repeat (first | exact ro_refl | exact ro_pre | refine ro_tail ?_ | refine ro_app ?_)) ?_
              | refine TC.ret3 (fn := Try.f12) (fun _ _ h => h) rfl (RV.agg (i := 5) rfl ag31 sz31 rfl rfl rfl) (RV.tmp rfl) (RV.tmp rfl) (M' := M ++ slH σ 5 (bv (dOf l))) (by repeat (first | exact ro_refl | exact ro_pre | refine ro_tail ?_ | refine ro_app ?_)) ?_
            first
              | exact .inl ⟨by rw [hge] at c3; simpa using c3, rfl, rfl⟩
              | exact .inr ⟨by rw [hge] at c3; simpa using c3, σ, rfl, hok, rfl⟩
        | true =>
          simp at hg6
      · skip
        refine TO.does (listed' := #[true, true, true, true, true, true, true, true, true, true, true, true, true, true, true, true, true, true, true, true, true, true, true, false, false, true, false]) (some 7) rfl rfl rfl rfl (by kernel_rfl) (Does.alloc ze31 rfl) ?_
        rintro _ _ ⟨b8, rfl, rfl⟩
        refine ⟨(by repeat (first | exact ro_refl | exact ro_pre | refine ro_tail ?_ | refine ro_app ?_)), ?_⟩
        refine TA.one 23 (by kernel_rfl) ?_
        refine TO.does (listed' := #[true, true, true, true, true, true, true, true, true, true, true, true, true, true, true, true, true, true, true, true, true, true, true, true, false, true, false]) (some 45) rfl rfl rfl rfl (by kernel_rfl) (Does.callF go25 rfl (Clone_rot (dOf l) _ _ _ _ (.some (by have := ((hR.drop 8).take (nOf l)); rw [← bv_drop, ← bv_take] at this; first | exact (this.cons _) | exact ((this.cons _).cons _))) (by rw [dOf_len hl]; omega) (by rw [dOf_len hl]; simp [nOf]; omega))) ?_
        rintro _ _ ⟨σ, rfl, hok, rfl⟩
        refine ⟨(by repeat (first | exact ro_refl | exact ro_pre | refine ro_tail ?_ | refine ro_app ?_)), ?_⟩
        refine TA.take 24 rfl rfl rfl (Nat.le_of_ble_eq_true rfl) (by kernel_rfl) (by kernel_rfl) (by kernel_rfl) (listed' := #[true, true, true, true, true, true, true, true, true, true, true, true, true, true, true, true, true, true, true, true, true, true, true, true, true, true, false]) (by kernel_rfl) (by repeat (first | exact ro_refl | exact ro_pre | refine ro_tail ?_ | refine ro_app ?_)) (Val.buildS pl31 ze31 rfl rfl) ?_
        refine TA.one 26 (by kernel_rfl) ?_
        first
          | refine TO.does (listed' := #[true, true, true, true, true, true, true, true, true, true, true, true, true, true, true, true, true, true, true, true, true, true, true, true, true, true, true]) none rfl rfl rfl rfl (by kernel_rfl) (Does.store (i := 0) rfl rfl rfl sz31 rfl rfl (by first | decide | omega) rfl rfl) ?_
          | refine TO.does (listed' := #[true, true, true, true, true, true, true, true, true, true, true, true, true, true, true, true, true, true, true, true, true, true, true, true, true, true, true]) none rfl rfl rfl rfl (by kernel_rfl) (Does.store (i := 1) rfl rfl rfl sz31 rfl rfl (by first | decide | omega) rfl rfl) ?_
          | refine TO.does (listed' := #[true, true, true, true, true, true, true, true, true, true, true, true, true, true, true, true, true, true, true, true, true, true, true, true, true, true, true]) none rfl rfl rfl rfl (by kernel_rfl) (Does.store (i := 2) rfl rfl rfl sz31 rfl rfl (by first | decide | omega) rfl rfl) ?_
          | refine TO.does (listed' := #[true, true, true, true, true, true, true, true, true, true, true, true, true, true, true, true, true, true, true, true, true, true, true, true, true, true, true]) none rfl rfl rfl rfl (by kernel_rfl) (Does.store (i := 3) rfl rfl rfl sz31 rfl rfl (by first | decide | omega) rfl rfl) ?_
          | refine TO.does (listed' := #[true, true, true, true, true, true, true, true, true, true, true, true, true, true, true, true, true, true, true, true, true, true, true, true, true, true, true]) none rfl rfl rfl rfl (by kernel_rfl) (Does.store (i := 4) rfl rfl rfl sz31 rfl rfl (by first | decide | omega) rfl rfl) ?_
          | refine TO.does (listed' := #[true, true, true, true, true, true, true, true, true, true, true, true, true, true, true, true, true, true, true, true, true, true, true, true, true, true, true]) none rfl rfl rfl rfl (by kernel_rfl) (Does.store (i := 5) rfl rfl rfl sz31 rfl rfl (by first | decide | omega) rfl rfl) ?_
        rintro _ _ ⟨rfl, rfl⟩
        refine ⟨(by repeat (first | exact ro_refl | exact ro_pre | refine ro_tail ?_ | refine ro_app ?_)), ?_⟩
        refine TA.done (by kernel_rfl) ?_
        refine AtX.then ?_
        refine TC.env (E' := [(0, _), (2, _), (3, _), (4, _), (7, _)]) (Sub.cons rfl (Sub.cons rfl (Sub.cons rfl (Sub.cons rfl (Sub.cons rfl (Sub.nil _)))))) ?_
        refine TC.seq ?_
        refine TC.seq ?_
        refine TC.region ?_
        first
          | refine TL.val rfl rfl (Nat.le_of_ble_eq_true rfl) (Val.loadAgg 0 rfl ag31 sz31 rfl rfl rfl) ?_
          | refine TL.val rfl rfl (Nat.le_of_ble_eq_true rfl) (Val.loadAgg 1 rfl ag31 sz31 rfl rfl rfl) ?_
          | refine TL.val rfl rfl (Nat.le_of_ble_eq_true rfl) (Val.loadAgg 2 rfl ag31 sz31 rfl rfl rfl) ?_
          | refine TL.val rfl rfl (Nat.le_of_ble_eq_true rfl) (Val.loadAgg 3 rfl ag31 sz31 rfl rfl rfl) ?_
          | refine TL.val rfl rfl (Nat.le_of_ble_eq_true rfl) (Val.loadAgg 4 rfl ag31 sz31 rfl rfl rfl) ?_
          | refine TL.val rfl rfl (Nat.le_of_ble_eq_true rfl) (Val.loadAgg 5 rfl ag31 sz31 rfl rfl rfl) ?_
        refine TL.does (some 49) rfl rfl rfl (Does.callF go10 rfl (Put_fn _ _ _ (dOf l) _ _ _ _ (slRd hok (fun x h => by first | exact List.mem_append_right _ h | exact List.mem_cons_of_mem _ (List.mem_append_right _ h) | exact List.mem_cons_of_mem _ (List.mem_cons_of_mem _ (List.mem_append_right _ h)))) rfl (by rw [dOf_len hl]; exact hm))) ?_
        rintro _ _ ⟨b8, c8, sp8, rfl, hc8, rfl⟩
        refine TL.val rfl rfl (Nat.le_of_ble_eq_true rfl) (Val.move rfl) ?_
        refine TL.val rfl rfl (Nat.le_of_ble_eq_true rfl) (Val.extract rfl rfl) ?_
        refine TL.val rfl rfl (Nat.le_of_ble_eq_true rfl) (Val.extract rfl rfl) ?_
        refine TL.val rfl rfl (Nat.le_of_ble_eq_true rfl) (Val.assign rfl) ?_
        refine TL.val rfl rfl (Nat.le_of_ble_eq_true rfl) (Val.assign rfl) ?_
        refine TL.nil ?_
        refine AtX.then ?_
        refine TC.env (E' := [(0, _), (2, _), (3, _), (4, _), (7, _), (8, _), (9, _)]) (Sub.cons rfl (Sub.cons rfl (Sub.cons rfl (Sub.cons rfl (Sub.cons rfl (Sub.cons rfl (Sub.cons rfl (Sub.nil _)))))))) ?_
        refine TC.seq ?_
        refine TC.region ?_
        refine TL.val rfl rfl (Nat.le_of_ble_eq_true rfl) (Val.move rfl) ?_
        refine TL.val rfl rfl (Nat.le_of_ble_eq_true rfl) (Val.neqI rfl rfl) ?_
        refine TL.val rfl rfl (Nat.le_of_ble_eq_true rfl) (Val.move rfl) ?_
        refine TL.gen (fun g11 hg11 => ?_)
        refine TL.gval rfl rfl (Nat.le_of_ble_eq_true rfl) rfl (Nat.le_of_ble_eq_true rfl) rfl (fun hg => by subst hg; exact (Val.move rfl)) ?_
        refine TL.gval rfl rfl (Nat.le_of_ble_eq_true rfl) rfl (Nat.le_of_ble_eq_true rfl) rfl (fun hg => by subst hg; exact (Val.move rfl)) ?_
        cases g11 with
        | false =>
          refine TL.doesYes (some 57) rfl rfl rfl (Nat.le_of_ble_eq_true rfl) rfl rfl (Does.callF go26 rfl (Equal_fn (againB l) l _ _ _ _ _ _ _ (rd_all (i := 0) rfl) (by first | exact ((hA.pre _).cons _).cons _ | exact (((hA.pre _).cons _).cons _).cons _) (by rw [againB, cellB_len _ _ _ _ (by rw [dOf_len hl]; exact hn48)]) rfl)) ?_
          rintro _ _ ⟨ge, hge, rfl, rfl⟩
          refine TL.valYes rfl rfl (Nat.le_of_ble_eq_true rfl) rfl (Nat.le_of_ble_eq_true rfl) rfl (Val.not rfl) ?_
          first
            | refine TL.val rfl rfl (Nat.le_of_ble_eq_true rfl) (Val.pickAnd rfl rfl rfl) ?_
            | refine TL.val rfl rfl (Nat.le_of_ble_eq_true rfl) (Val.pickOr rfl rfl rfl) ?_
            | refine TL.val rfl rfl (Nat.le_of_ble_eq_true rfl) (Val.pick rfl rfl rfl) ?_
          refine TL.nil ?_
          refine AtX.then ?_
          refine TC.env (E' := [(2, _), (3, _), (4, _), (7, _), (59, _)]) (Sub.cons rfl (Sub.cons rfl (Sub.cons rfl (Sub.cons rfl (Sub.cons rfl (Sub.nil _)))))) ?_
          first | refine TC.condP rfl (fun c4 => ?_) (fun c4 => ?_) | refine TC.condN rfl (fun c4 => ?_) (fun c4 => ?_) | refine TC.condB rfl (fun c4 => ?_) (fun c4 => ?_) | refine TC.cond rfl (fun c4 => ?_) (fun c4 => ?_)
          · skip
            refine TC.env (E' := [(2, _), (3, _), (4, _), (7, _)]) (Sub.cons rfl (Sub.cons rfl (Sub.cons rfl (Sub.cons rfl (Sub.nil _))))) ?_
            refine TC.seq ?_
            refine TC.region ?_
            refine TL.val rfl rfl (Nat.le_of_ble_eq_true rfl) (Val.buildS pl31 ze31 rfl rfl) ?_
            first
              | refine TL.does none rfl rfl rfl (Does.store (i := 0) rfl rfl rfl sz31 rfl rfl (by first | decide | omega) rfl rfl) ?_
              | refine TL.does none rfl rfl rfl (Does.store (i := 1) rfl rfl rfl sz31 rfl rfl (by first | decide | omega) rfl rfl) ?_
              | refine TL.does none rfl rfl rfl (Does.store (i := 2) rfl rfl rfl sz31 rfl rfl (by first | decide | omega) rfl rfl) ?_
              | refine TL.does none rfl rfl rfl (Does.store (i := 3) rfl rfl rfl sz31 rfl rfl (by first | decide | omega) rfl rfl) ?_
              | refine TL.does none rfl rfl rfl (Does.store (i := 4) rfl rfl rfl sz31 rfl rfl (by first | decide | omega) rfl rfl) ?_
              | refine TL.does none rfl rfl rfl (Does.store (i := 5) rfl rfl rfl sz31 rfl rfl (by first | decide | omega) rfl rfl) ?_
            rintro _ _ ⟨rfl, rfl⟩
            refine TL.val rfl rfl (Nat.le_of_ble_eq_true rfl) (Val.assign rfl) ?_
            refine TL.val rfl rfl (Nat.le_of_ble_eq_true rfl) (Val.assign rfl) ?_
            refine TL.nil ?_
            refine AtX.then ?_
            refine TC.env (E' := [(2, _), (3, _), (4, _), (7, _)]) (Sub.cons rfl (Sub.cons rfl (Sub.cons rfl (Sub.cons rfl (Sub.nil _))))) ?_
            first
              | refine TC.ret3 (fn := Try.f12) (fun _ _ h => h) rfl (RV.agg (i := 0) rfl ag31 sz31 rfl rfl rfl) (RV.tmp rfl) (RV.tmp rfl) (M' := M) (by repeat (first | exact ro_refl | exact ro_pre | refine ro_tail ?_ | refine ro_app ?_)) ?_
              | refine TC.ret3 (fn := Try.f12) (fun _ _ h => h) rfl (RV.agg (i := 1) rfl ag31 sz31 rfl rfl rfl) (RV.tmp rfl) (RV.tmp rfl) (M' := M) (by repeat (first | exact ro_refl | exact ro_pre | refine ro_tail ?_ | refine ro_app ?_)) ?_
              | refine TC.ret3 (fn := Try.f12) (fun _ _ h => h) rfl (RV.agg (i := 2) rfl ag31 sz31 rfl rfl rfl) (RV.tmp rfl) (RV.tmp rfl) (M' := M) (by repeat (first | exact ro_refl | exact ro_pre | refine ro_tail ?_ | refine ro_app ?_)) ?_
              | refine TC.ret3 (fn := Try.f12) (fun _ _ h => h) rfl (RV.agg (i := 3) rfl ag31 sz31 rfl rfl rfl) (RV.tmp rfl) (RV.tmp rfl) (M' := M) (by repeat (first | exact ro_refl | exact ro_pre | refine ro_tail ?_ | refine ro_app ?_)) ?_
              | refine TC.ret3 (fn := Try.f12) (fun _ _ h => h) rfl (RV.agg (i := 4) rfl ag31 sz31 rfl rfl rfl) (RV.tmp rfl) (RV.tmp rfl) (M' := M) (by repeat (first | exact ro_refl | exact ro_pre | refine ro_tail ?_ | refine ro_app ?_)) ?_
              | refine TC.ret3 (fn := Try.f12) (fun _ _ h => h) rfl (RV.agg (i := 5) rfl ag31 sz31 rfl rfl rfl) (RV.tmp rfl) (RV.tmp rfl) (M' := M) (by repeat (first | exact ro_refl | exact ro_pre | refine ro_tail ?_ | refine ro_app ?_)) ?_
            first
              | exact .inl ⟨by rw [hge] at c4; simpa using c4, rfl, rfl⟩
              | exact .inr ⟨by rw [hge] at c4; simpa using c4, σ, rfl, hok, rfl⟩
          · skip
            refine TC.env (E' := [(2, _), (3, _), (4, _), (7, _)]) (Sub.cons rfl (Sub.cons rfl (Sub.cons rfl (Sub.cons rfl (Sub.nil _))))) ?_
            refine TC.skip ?_
            refine AtX.then ?_
            refine TC.env (E' := [(2, _), (3, _), (4, _), (7, _)]) (Sub.cons rfl (Sub.cons rfl (Sub.cons rfl (Sub.cons rfl (Sub.nil _))))) ?_
            refine TC.seq ?_
            refine TC.region ?_
            first
              | refine TL.val rfl rfl (Nat.le_of_ble_eq_true rfl) (Val.loadAgg 0 rfl ag31 sz31 rfl rfl rfl) ?_
              | refine TL.val rfl rfl (Nat.le_of_ble_eq_true rfl) (Val.loadAgg 1 rfl ag31 sz31 rfl rfl rfl) ?_
              | refine TL.val rfl rfl (Nat.le_of_ble_eq_true rfl) (Val.loadAgg 2 rfl ag31 sz31 rfl rfl rfl) ?_
              | refine TL.val rfl rfl (Nat.le_of_ble_eq_true rfl) (Val.loadAgg 3 rfl ag31 sz31 rfl rfl rfl) ?_
              | refine TL.val rfl rfl (Nat.le_of_ble_eq_true rfl) (Val.loadAgg 4 rfl ag31 sz31 rfl rfl rfl) ?_
              | refine TL.val rfl rfl (Nat.le_of_ble_eq_true rfl) (Val.loadAgg 5 rfl ag31 sz31 rfl rfl rfl) ?_
            first
              | refine TL.does none rfl rfl rfl (Does.store (i := 0) rfl rfl rfl sz31 rfl rfl (by first | decide | omega) rfl rfl) ?_
              | refine TL.does none rfl rfl rfl (Does.store (i := 1) rfl rfl rfl sz31 rfl rfl (by first | decide | omega) rfl rfl) ?_
              | refine TL.does none rfl rfl rfl (Does.store (i := 2) rfl rfl rfl sz31 rfl rfl (by first | decide | omega) rfl rfl) ?_
              | refine TL.does none rfl rfl rfl (Does.store (i := 3) rfl rfl rfl sz31 rfl rfl (by first | decide | omega) rfl rfl) ?_
              | refine TL.does none rfl rfl rfl (Does.store (i := 4) rfl rfl rfl sz31 rfl rfl (by first | decide | omega) rfl rfl) ?_
              | refine TL.does none rfl rfl rfl (Does.store (i := 5) rfl rfl rfl sz31 rfl rfl (by first | decide | omega) rfl rfl) ?_
            rintro _ _ ⟨rfl, rfl⟩
            refine TL.val rfl rfl (Nat.le_of_ble_eq_true rfl) (Val.assign rfl) ?_
            refine TL.val rfl rfl (Nat.le_of_ble_eq_true rfl) (Val.assign rfl) ?_
            refine TL.nil ?_
            refine AtX.then ?_
            refine TC.env (E' := [(2, _), (3, _), (4, _)]) (Sub.cons rfl (Sub.cons rfl (Sub.cons rfl (Sub.nil _)))) ?_
            first
              | refine TC.ret3 (fn := Try.f12) (fun _ _ h => h) rfl (RV.agg (i := 0) rfl ag31 sz31 rfl rfl rfl) (RV.tmp rfl) (RV.tmp rfl) (M' := M ++ slH σ 5 (bv (dOf l))) (by repeat (first | exact ro_refl | exact ro_pre | refine ro_tail ?_ | refine ro_app ?_)) ?_
              | refine TC.ret3 (fn := Try.f12) (fun _ _ h => h) rfl (RV.agg (i := 1) rfl ag31 sz31 rfl rfl rfl) (RV.tmp rfl) (RV.tmp rfl) (M' := M ++ slH σ 5 (bv (dOf l))) (by repeat (first | exact ro_refl | exact ro_pre | refine ro_tail ?_ | refine ro_app ?_)) ?_
              | refine TC.ret3 (fn := Try.f12) (fun _ _ h => h) rfl (RV.agg (i := 2) rfl ag31 sz31 rfl rfl rfl) (RV.tmp rfl) (RV.tmp rfl) (M' := M ++ slH σ 5 (bv (dOf l))) (by repeat (first | exact ro_refl | exact ro_pre | refine ro_tail ?_ | refine ro_app ?_)) ?_
              | refine TC.ret3 (fn := Try.f12) (fun _ _ h => h) rfl (RV.agg (i := 3) rfl ag31 sz31 rfl rfl rfl) (RV.tmp rfl) (RV.tmp rfl) (M' := M ++ slH σ 5 (bv (dOf l))) (by repeat (first | exact ro_refl | exact ro_pre | refine ro_tail ?_ | refine ro_app ?_)) ?_
              | refine TC.ret3 (fn := Try.f12) (fun _ _ h => h) rfl (RV.agg (i := 4) rfl ag31 sz31 rfl rfl rfl) (RV.tmp rfl) (RV.tmp rfl) (M' := M ++ slH σ 5 (bv (dOf l))) (by repeat (first | exact ro_refl | exact ro_pre | refine ro_tail ?_ | refine ro_app ?_)) ?_
              | refine TC.ret3 (fn := Try.f12) (fun _ _ h => h) rfl (RV.agg (i := 5) rfl ag31 sz31 rfl rfl rfl) (RV.tmp rfl) (RV.tmp rfl) (M' := M ++ slH σ 5 (bv (dOf l))) (by repeat (first | exact ro_refl | exact ro_pre | refine ro_tail ?_ | refine ro_app ?_)) ?_
            first
              | exact .inl ⟨by rw [hge] at c4; simpa using c4, rfl, rfl⟩
              | exact .inr ⟨by rw [hge] at c4; simpa using c4, σ, rfl, hok, rfl⟩
        | true =>
          simp at hg11

end Go.Proofs.Ytbjjjapdioegpaa
