/- walks -/
import Derived.Test.YtbjjjapdioegpaaG1
set_option linter.unusedVariables false
set_option linter.unusedSimpArgs false
set_option maxRecDepth 100000
set_option maxHeartbeats 4000000
namespace Go.Proofs.Ytbjjjapdioegpaa
open Go Go.X
/-- quorumite/log.Of -/
theorem Of_fn (l : List UInt8) (A : Option Addr) (n c : Nat) (M : Hp) (hA : RdS M A (bv l)) (hn : n = l.length) (hl : l.length = 64) : FnC Try.prog 24 #[.slice A n c] M (fun v M' => v = .tuple #[.int .u32 (passOf l : Nat), .bool (wholeB l)] ∧ M = M') := by
  subst hn
  obtain ⟨b, q, rfl, hR⟩ := RdS.get hA (by simp; omega)
  refine FnC.intro Try.func24 rfl 35 rfl (by simp) (fun z => ?_)
  refine TC.env (E' := [(0, _)]) (Sub.cons rfl (Sub.nil _)) ?_
  refine TC.seq ?_
  refine TC.region ?_
  refine TL.val rfl rfl (Nat.le_of_ble_eq_true rfl) (Val.assign rfl) ?_
  refine TL.val rfl rfl (Nat.le_of_ble_eq_true rfl) (Val.assign rfl) ?_
  refine TL.nil ?_
  refine AtX.then ?_
  refine TC.seq ?_
  refine TC.seq ?_
  refine TC.region ?_
  refine TL.val rfl rfl (Nat.le_of_ble_eq_true rfl) (Val.move rfl) ?_
  refine TL.val rfl rfl (Nat.le_of_ble_eq_true rfl) (Val.lenSl rfl rfl sl23) ?_
  refine TL.val rfl rfl (Nat.le_of_ble_eq_true rfl) (Val.neqI rfl rfl) ?_
  refine TL.nil ?_
  refine AtX.then ?_
  refine TC.env (E' := [(0, _), (2, _), (3, _), (9, _)]) (Sub.cons rfl (Sub.cons rfl (Sub.cons rfl (Sub.cons rfl (Sub.nil _))))) ?_
  first | refine TC.condP rfl (fun c1 => ?_) (fun c1 => ?_) | refine TC.condN rfl (fun c1 => ?_) (fun c1 => ?_) | refine TC.condB rfl (fun c1 => ?_) (fun c1 => ?_) | refine TC.cond rfl (fun c1 => ?_) (fun c1 => ?_)
  · skip
    omega
  · skip
    refine TC.env (E' := [(0, _), (2, _), (3, _)]) (Sub.cons rfl (Sub.cons rfl (Sub.cons rfl (Sub.nil _)))) ?_
    refine TC.skip ?_
    refine AtX.then ?_
    refine TC.env (E' := [(0, _), (2, _), (3, _)]) (Sub.cons rfl (Sub.cons rfl (Sub.cons rfl (Sub.nil _)))) ?_
    refine TC.seq ?_
    refine TC.region ?_
    refine TL.val rfl rfl (Nat.le_of_ble_eq_true rfl) (Val.move rfl) ?_
    refine TL.does (some 12) rfl rfl rfl (Does.callF go28 rfl (sipGet_fn l _ _ _ 0 _ hA rfl (by omega) (by omega))) ?_
    rintro _ _ ⟨rfl, rfl⟩
    refine TL.val rfl rfl (Nat.le_of_ble_eq_true rfl) (Val.move rfl) ?_
    refine TL.val rfl rfl (Nat.le_of_ble_eq_true rfl) (Val.extract rfl rfl) ?_
    refine TL.val rfl rfl (Nat.le_of_ble_eq_true rfl) (Val.extract rfl rfl) ?_
    refine TL.val rfl rfl (Nat.le_of_ble_eq_true rfl) (Val.assign rfl) ?_
    refine TL.val rfl rfl (Nat.le_of_ble_eq_true rfl) (Val.assign rfl) ?_
    refine TL.nil ?_
    refine AtX.then ?_
    refine TC.env (E' := [(0, _), (2, _), (3, _), (4, _)]) (Sub.cons rfl (Sub.cons rfl (Sub.cons rfl (Sub.cons rfl (Sub.nil _))))) ?_
    refine TC.seq ?_
    refine TC.region ?_
    refine TL.val rfl rfl (Nat.le_of_ble_eq_true rfl) (Val.move rfl) ?_
    refine TL.val rfl rfl (Nat.le_of_ble_eq_true rfl) (Val.convI rfl iu55 in22 (r := (passOf l : Nat)) (by rw [w_u32m]; simp [passOf])) ?_
    refine TL.val rfl rfl (Nat.le_of_ble_eq_true rfl) (Val.assign rfl) ?_
    refine TL.nil ?_
    refine AtX.then ?_
    refine TC.env (E' := [(0, _), (2, _), (3, _), (6, _)]) (Sub.cons rfl (Sub.cons rfl (Sub.cons rfl (Sub.cons rfl (Sub.nil _))))) ?_
    refine TC.seq ?_
    refine TC.draw M mixed ?_
    refine TA.take 0 rfl rfl rfl (Nat.le_of_ble_eq_true rfl) (by kernel_rfl) (by kernel_rfl) (by kernel_rfl) (listed' := #[true, false, false, false, false, false, false, false, false, false, false, false, false, false, false, false, false, false, false, false]) (by kernel_rfl) (by repeat (first | exact ro_refl | exact ro_pre | refine ro_tail ?_ | refine ro_app ?_)) (Val.move rfl) ?_
    refine TA.take 1 rfl rfl rfl (Nat.le_of_ble_eq_true rfl) (by kernel_rfl) (by kernel_rfl) (by kernel_rfl) (listed' := #[true, true, false, false, false, false, false, false, false, false, false, false, false, false, false, false, false, false, false, false]) (by kernel_rfl) (by repeat (first | exact ro_refl | exact ro_pre | refine ro_tail ?_ | refine ro_app ?_)) (Val.move rfl) ?_
    refine TA.take 2 rfl rfl rfl (Nat.le_of_ble_eq_true rfl) (by kernel_rfl) (by kernel_rfl) (by kernel_rfl) (listed' := #[true, true, true, false, false, false, false, false, false, false, false, false, false, false, false, false, false, false, false, false]) (by kernel_rfl) (by repeat (first | exact ro_refl | exact ro_pre | refine ro_tail ?_ | refine ro_app ?_)) (Val.geq rfl rfl) ?_
    refine TA.take 3 rfl rfl rfl (Nat.le_of_ble_eq_true rfl) (by kernel_rfl) (by kernel_rfl) (by kernel_rfl) (listed' := #[true, true, true, true, false, false, false, false, false, false, false, false, false, false, false, false, false, false, false, false]) (by kernel_rfl) (by repeat (first | exact ro_refl | exact ro_pre | refine ro_tail ?_ | refine ro_app ?_)) (Val.move rfl) ?_
    refine TA.gen (fun g2 hg2 => ?_)
    refine TA.gtake 4 rfl rfl rfl (Nat.le_of_ble_eq_true rfl) rfl (Nat.le_of_ble_eq_true rfl) rfl (by kernel_rfl) (by kernel_rfl) (by kernel_rfl) (listed' := #[true, true, true, true, true, false, false, false, false, false, false, false, false, false, false, false, false, false, false, false]) (by kernel_rfl) (by repeat (first | exact ro_refl | exact ro_pre | refine ro_tail ?_ | refine ro_app ?_)) (fun hg => by subst hg; exact (Val.move rfl)) ?_
    refine TA.gtake 5 rfl rfl rfl (Nat.le_of_ble_eq_true rfl) rfl (Nat.le_of_ble_eq_true rfl) rfl (by kernel_rfl) (by kernel_rfl) (by kernel_rfl) (listed' := #[true, true, true, true, true, true, false, false, false, false, false, false, false, false, false, false, false, false, false, false]) (by kernel_rfl) (by repeat (first | exact ro_refl | exact ro_pre | refine ro_tail ?_ | refine ro_app ?_)) (fun hg => by subst hg; exact (Val.leq rfl rfl)) ?_
    first
      | refine TA.take 6 rfl rfl rfl (Nat.le_of_ble_eq_true rfl) (by kernel_rfl) (by kernel_rfl) (by kernel_rfl) (listed' := #[true, true, true, true, true, true, true, false, false, false, false, false, false, false, false, false, false, false, false, false]) (by kernel_rfl) (by repeat (first | exact ro_refl | exact ro_pre | refine ro_tail ?_ | refine ro_app ?_)) (Val.pickAnd rfl rfl rfl) ?_
      | refine TA.take 6 rfl rfl rfl (Nat.le_of_ble_eq_true rfl) (by kernel_rfl) (by kernel_rfl) (by kernel_rfl) (listed' := #[true, true, true, true, true, true, true, false, false, false, false, false, false, false, false, false, false, false, false, false]) (by kernel_rfl) (by repeat (first | exact ro_refl | exact ro_pre | refine ro_tail ?_ | refine ro_app ?_)) (Val.pickOr rfl rfl rfl) ?_
      | refine TA.take 6 rfl rfl rfl (Nat.le_of_ble_eq_true rfl) (by kernel_rfl) (by kernel_rfl) (by kernel_rfl) (listed' := #[true, true, true, true, true, true, true, false, false, false, false, false, false, false, false, false, false, false, false, false]) (by kernel_rfl) (by repeat (first | exact ro_refl | exact ro_pre | refine ro_tail ?_ | refine ro_app ?_)) (Val.pick rfl rfl rfl) ?_
    refine TA.take 7 rfl rfl rfl (Nat.le_of_ble_eq_true rfl) (by kernel_rfl) (by kernel_rfl) (by kernel_rfl) (listed' := #[true, true, true, true, true, true, true, true, false, false, false, false, false, false, false, false, false, false, false, false]) (by kernel_rfl) (by repeat (first | exact ro_refl | exact ro_pre | refine ro_tail ?_ | refine ro_app ?_)) (Val.move rfl) ?_
    refine TA.gen (fun g3 hg3 => ?_)
    refine TA.gtake 8 rfl rfl rfl (Nat.le_of_ble_eq_true rfl) rfl (Nat.le_of_ble_eq_true rfl) rfl (by kernel_rfl) (by kernel_rfl) (by kernel_rfl) (listed' := #[true, true, true, true, true, true, true, true, true, false, false, false, false, false, false, false, false, false, false, false]) (by kernel_rfl) (by repeat (first | exact ro_refl | exact ro_pre | refine ro_tail ?_ | refine ro_app ?_)) (fun hg => by subst hg; exact (Val.move rfl)) ?_
    refine TA.gtake 9 rfl rfl rfl (Nat.le_of_ble_eq_true rfl) rfl (Nat.le_of_ble_eq_true rfl) rfl (by kernel_rfl) (by kernel_rfl) (by kernel_rfl) (listed' := #[true, true, true, true, true, true, true, true, true, true, false, false, false, false, false, false, false, false, false, false]) (by kernel_rfl) (by repeat (first | exact ro_refl | exact ro_pre | refine ro_tail ?_ | refine ro_app ?_)) (fun hg => by subst hg; exact (Val.move rfl)) ?_
    refine TA.gtake 10 rfl rfl rfl (Nat.le_of_ble_eq_true rfl) rfl (Nat.le_of_ble_eq_true rfl) rfl (by kernel_rfl) (by kernel_rfl) (by kernel_rfl) (listed' := #[true, true, true, true, true, true, true, true, true, true, true, false, false, false, false, false, false, false, false, false]) (by kernel_rfl) (by repeat (first | exact ro_refl | exact ro_pre | refine ro_tail ?_ | refine ro_app ?_)) (fun hg => by subst hg; exact (Val.lenSl rfl rfl sl23)) ?_
    first
      | refine TA.gtake 11 rfl rfl rfl (Nat.le_of_ble_eq_true rfl) rfl (Nat.le_of_ble_eq_true rfl) rfl (by kernel_rfl) (by kernel_rfl) (by kernel_rfl) (listed' := #[true, true, true, true, true, true, true, true, true, true, true, true, false, false, false, false, false, false, false, false]) (by kernel_rfl) (by repeat (first | exact ro_refl | exact ro_pre | refine ro_tail ?_ | refine ro_app ?_)) (fun hg => by subst hg; exact (Val.sub rfl rfl (w_i64 (by omega) (by omega)))) ?_
      | refine TA.gtake 11 rfl rfl rfl (Nat.le_of_ble_eq_true rfl) rfl (Nat.le_of_ble_eq_true rfl) rfl (by kernel_rfl) (by kernel_rfl) (by kernel_rfl) (listed' := #[true, true, true, true, true, true, true, true, true, true, true, true, false, false, false, false, false, false, false, false]) (by kernel_rfl) (by repeat (first | exact ro_refl | exact ro_pre | refine ro_tail ?_ | refine ro_app ?_)) (fun hg => by subst hg; exact (Val.sub rfl rfl rfl)) ?_
    refine TA.gtake 12 rfl rfl rfl (Nat.le_of_ble_eq_true rfl) rfl (Nat.le_of_ble_eq_true rfl) rfl (by kernel_rfl) (by kernel_rfl) (by kernel_rfl) (listed' := #[true, true, true, true, true, true, true, true, true, true, true, true, true, false, false, false, false, false, false, false]) (by kernel_rfl) (by repeat (first | exact ro_refl | exact ro_pre | refine ro_tail ?_ | refine ro_app ?_)) (fun hg => by subst hg; exact (Val.indexAddr (i := 63) rfl rfl sl23 sz5 (by omega) (by omega) rfl)) ?_
    refine TA.gtake 13 rfl rfl rfl (Nat.le_of_ble_eq_true rfl) rfl (Nat.le_of_ble_eq_true rfl) rfl (by kernel_rfl) (by kernel_rfl) (by kernel_rfl) (listed' := #[true, true, true, true, true, true, true, true, true, true, true, true, true, true, false, false, false, false, false, false]) (by kernel_rfl) (by repeat (first | exact ro_refl | exact ro_pre | refine ro_tail ?_ | refine ro_app ?_)) (fun hg => by subst hg; exact (Val.loadB 63 rfl ag5 hR (by simp) (by omega))) ?_
    refine TA.gtake 14 rfl rfl rfl (Nat.le_of_ble_eq_true rfl) rfl (Nat.le_of_ble_eq_true rfl) rfl (by kernel_rfl) (by kernel_rfl) (by kernel_rfl) (listed' := #[true, true, true, true, true, true, true, true, true, true, true, true, true, true, true, false, false, false, false, false]) (by kernel_rfl) (by repeat (first | exact ro_refl | exact ro_pre | refine ro_tail ?_ | refine ro_app ?_)) (fun hg => by subst hg; exact (Val.move rfl)) ?_
    cases g3 with
    | false =>
      refine TA.takePass 15 rfl rfl rfl (Nat.le_of_ble_eq_true rfl) rfl (Nat.le_of_ble_eq_true rfl) rfl rfl (by kernel_rfl) (by kernel_rfl) (by kernel_rfl) (listed' := #[true, true, true, true, true, true, true, true, true, true, true, true, true, true, true, true, false, false, false, false]) (by kernel_rfl) (by repeat (first | exact ro_refl | exact ro_pre | refine ro_tail ?_ | refine ro_app ?_)) ?_
      refine TA.takePass 16 rfl rfl rfl (Nat.le_of_ble_eq_true rfl) rfl (Nat.le_of_ble_eq_true rfl) rfl rfl (by kernel_rfl) (by kernel_rfl) (by kernel_rfl) (listed' := #[true, true, true, true, true, true, true, true, true, true, true, true, true, true, true, true, true, false, false, false]) (by kernel_rfl) (by repeat (first | exact ro_refl | exact ro_pre | refine ro_tail ?_ | refine ro_app ?_)) ?_
      first
        | refine TA.take 17 rfl rfl rfl (Nat.le_of_ble_eq_true rfl) (by kernel_rfl) (by kernel_rfl) (by kernel_rfl) (listed' := #[true, true, true, true, true, true, true, true, true, true, true, true, true, true, true, true, true, true, false, false]) (by kernel_rfl) (by repeat (first | exact ro_refl | exact ro_pre | refine ro_tail ?_ | refine ro_app ?_)) (Val.pickAnd rfl rfl rfl) ?_
        | refine TA.take 17 rfl rfl rfl (Nat.le_of_ble_eq_true rfl) (by kernel_rfl) (by kernel_rfl) (by kernel_rfl) (listed' := #[true, true, true, true, true, true, true, true, true, true, true, true, true, true, true, true, true, true, false, false]) (by kernel_rfl) (by repeat (first | exact ro_refl | exact ro_pre | refine ro_tail ?_ | refine ro_app ?_)) (Val.pickOr rfl rfl rfl) ?_
        | refine TA.take 17 rfl rfl rfl (Nat.le_of_ble_eq_true rfl) (by kernel_rfl) (by kernel_rfl) (by kernel_rfl) (listed' := #[true, true, true, true, true, true, true, true, true, true, true, true, true, true, true, true, true, true, false, false]) (by kernel_rfl) (by repeat (first | exact ro_refl | exact ro_pre | refine ro_tail ?_ | refine ro_app ?_)) (Val.pick rfl rfl rfl) ?_
      refine TA.take 18 rfl rfl rfl (Nat.le_of_ble_eq_true rfl) (by kernel_rfl) (by kernel_rfl) (by kernel_rfl) (listed' := #[true, true, true, true, true, true, true, true, true, true, true, true, true, true, true, true, true, true, true, false]) (by kernel_rfl) (by repeat (first | exact ro_refl | exact ro_pre | refine ro_tail ?_ | refine ro_app ?_)) (Val.assign rfl) ?_
      refine TA.take 19 rfl rfl rfl (Nat.le_of_ble_eq_true rfl) (by kernel_rfl) (by kernel_rfl) (by kernel_rfl) (listed' := #[true, true, true, true, true, true, true, true, true, true, true, true, true, true, true, true, true, true, true, true]) (by kernel_rfl) (by repeat (first | exact ro_refl | exact ro_pre | refine ro_tail ?_ | refine ro_app ?_)) (Val.assign rfl) ?_
      refine TA.done (by kernel_rfl) ?_
      refine AtX.then ?_
      refine TC.env (E' := [(2, _), (3, _)]) (Sub.cons rfl (Sub.cons rfl (Sub.nil _))) ?_
      refine TC.ret2 (fn := Try.f24) (fun _ _ h => h) rfl (RV.tmp rfl) (RV.tmp rfl) (fun _ h => h) ?_
      refine ⟨?_, rfl⟩
      first | (simp_all [wholeB]; done) | (simp_all [wholeB]; intros; omega)
    | true =>
      refine TA.one 15 (by kernel_rfl) ?_
      refine TO.doesYes (listed' := #[true, true, true, true, true, true, true, true, true, true, true, true, true, true, true, true, false, false, false, false]) (some 32) rfl rfl rfl rfl (Nat.le_of_ble_eq_true rfl) rfl rfl (by kernel_rfl) (Does.callF go17 rfl (Mark_fn _ _)) ?_
      rintro _ _ ⟨rfl, rfl⟩
      refine ⟨(by repeat (first | exact ro_refl | exact ro_pre | refine ro_tail ?_ | refine ro_app ?_)), ?_⟩
      refine TA.takeYes 16 rfl rfl rfl (Nat.le_of_ble_eq_true rfl) rfl (Nat.le_of_ble_eq_true rfl) rfl (by kernel_rfl) (by kernel_rfl) (by kernel_rfl) (listed' := #[true, true, true, true, true, true, true, true, true, true, true, true, true, true, true, true, true, false, false, false]) (by kernel_rfl) (by repeat (first | exact ro_refl | exact ro_pre | refine ro_tail ?_ | refine ro_app ?_)) (Val.eqlI rfl rfl) ?_
      first
        | refine TA.take 17 rfl rfl rfl (Nat.le_of_ble_eq_true rfl) (by kernel_rfl) (by kernel_rfl) (by kernel_rfl) (listed' := #[true, true, true, true, true, true, true, true, true, true, true, true, true, true, true, true, true, true, false, false]) (by kernel_rfl) (by repeat (first | exact ro_refl | exact ro_pre | refine ro_tail ?_ | refine ro_app ?_)) (Val.pickAnd rfl rfl rfl) ?_
        | refine TA.take 17 rfl rfl rfl (Nat.le_of_ble_eq_true rfl) (by kernel_rfl) (by kernel_rfl) (by kernel_rfl) (listed' := #[true, true, true, true, true, true, true, true, true, true, true, true, true, true, true, true, true, true, false, false]) (by kernel_rfl) (by repeat (first | exact ro_refl | exact ro_pre | refine ro_tail ?_ | refine ro_app ?_)) (Val.pickOr rfl rfl rfl) ?_
        | refine TA.take 17 rfl rfl rfl (Nat.le_of_ble_eq_true rfl) (by kernel_rfl) (by kernel_rfl) (by kernel_rfl) (listed' := #[true, true, true, true, true, true, true, true, true, true, true, true, true, true, true, true, true, true, false, false]) (by kernel_rfl) (by repeat (first | exact ro_refl | exact ro_pre | refine ro_tail ?_ | refine ro_app ?_)) (Val.pick rfl rfl rfl) ?_
      refine TA.take 18 rfl rfl rfl (Nat.le_of_ble_eq_true rfl) (by kernel_rfl) (by kernel_rfl) (by kernel_rfl) (listed' := #[true, true, true, true, true, true, true, true, true, true, true, true, true, true, true, true, true, true, true, false]) (by kernel_rfl) (by repeat (first | exact ro_refl | exact ro_pre | refine ro_tail ?_ | refine ro_app ?_)) (Val.assign rfl) ?_
      refine TA.take 19 rfl rfl rfl (Nat.le_of_ble_eq_true rfl) (by kernel_rfl) (by kernel_rfl) (by kernel_rfl) (listed' := #[true, true, true, true, true, true, true, true, true, true, true, true, true, true, true, true, true, true, true, true]) (by kernel_rfl) (by repeat (first | exact ro_refl | exact ro_pre | refine ro_tail ?_ | refine ro_app ?_)) (Val.assign rfl) ?_
      refine TA.done (by kernel_rfl) ?_
      refine AtX.then ?_
      refine TC.env (E' := [(2, _), (3, _)]) (Sub.cons rfl (Sub.cons rfl (Sub.nil _))) ?_
      refine TC.ret2 (fn := Try.f24) (fun _ _ h => h) rfl (RV.tmp rfl) (RV.tmp rfl) (fun _ h => h) ?_
      refine ⟨?_, rfl⟩
      first | (simp_all [wholeB]; done) | (simp_all [wholeB]; intros; omega)

/-- quorumite/log.Put -/
theorem Put_fn (p pl kd : Int) (d : List UInt8) (A : Option Addr) (n c : Nat) (M : Hp) (hA : RdS M A (bv d)) (hn : n = d.length) (hm : mayC p pl kd n = true) : FnC Try.prog 10 #[.agg #[.int .u32 p, .int .i64 pl, .int .i64 kd, .slice A n c]] M (fun v M' => ∃ b c sp, v = .tuple #[.slice (some ⟨b, 0, none⟩) 64 c, .int .i64 0] ∧ 64 + sp.length = c ∧ M' = (b, row 5 (bv (cellB p pl kd d) ++ sp)) :: M) := by
  subst hn
  have hd : d.length ≤ 48 := by simp [mayC] at hm; omega
  have hp : 0 ≤ p ∧ p ≤ 250 := by simp [mayC] at hm; omega
  refine FnC.intro Try.func10 rfl 56 rfl (by simp) (fun z => ?_)
  refine TC.env (E' := [(0, _)]) (Sub.cons rfl (Sub.nil _)) ?_
  refine TC.seq ?_
  refine TC.region ?_
  refine TL.does (some 1) rfl rfl rfl (Does.box rfl rfl) ?_
  rintro _ _ ⟨b1, rfl, rfl⟩
  refine TL.val rfl rfl (Nat.le_of_ble_eq_true rfl) (Val.assign rfl) ?_
  refine TL.val rfl rfl (Nat.le_of_ble_eq_true rfl) (Val.assign rfl) ?_
  refine TL.nil ?_
  refine AtX.then ?_
  refine TC.env (E' := [(1, _), (2, _), (3, _)]) (Sub.cons rfl (Sub.cons rfl (Sub.cons rfl (Sub.nil _)))) ?_
  refine TC.seq ?_
  refine TC.seq ?_
  refine TC.region ?_
  first
    | refine TL.val rfl rfl (Nat.le_of_ble_eq_true rfl) (Val.loadAgg 0 rfl ag31 sz31 rfl rfl rfl) ?_
    | refine TL.val rfl rfl (Nat.le_of_ble_eq_true rfl) (Val.loadAgg 1 rfl ag31 sz31 rfl rfl rfl) ?_
    | refine TL.val rfl rfl (Nat.le_of_ble_eq_true rfl) (Val.loadAgg 2 rfl ag31 sz31 rfl rfl rfl) ?_
    | refine TL.val rfl rfl (Nat.le_of_ble_eq_true rfl) (Val.loadAgg 3 rfl ag31 sz31 rfl rfl rfl) ?_
    | refine TL.val rfl rfl (Nat.le_of_ble_eq_true rfl) (Val.loadAgg 4 rfl ag31 sz31 rfl rfl rfl) ?_
    | refine TL.val rfl rfl (Nat.le_of_ble_eq_true rfl) (Val.loadAgg 5 rfl ag31 sz31 rfl rfl rfl) ?_
  refine TL.does (some 6) rfl rfl rfl (Does.callF go14 rfl (May_fn _ _ _ _ _ _ _)) ?_
  rintro _ _ ⟨rfl, rfl⟩
  refine TL.val rfl rfl (Nat.le_of_ble_eq_true rfl) (Val.not rfl) ?_
  refine TL.nil ?_
  refine AtX.then ?_
  refine TC.env (E' := [(1, _), (2, _), (3, _), (7, _)]) (Sub.cons rfl (Sub.cons rfl (Sub.cons rfl (Sub.cons rfl (Sub.nil _))))) ?_
  first | refine TC.condP rfl (fun c1 => ?_) (fun c1 => ?_) | refine TC.condN rfl (fun c1 => ?_) (fun c1 => ?_) | refine TC.condB rfl (fun c1 => ?_) (fun c1 => ?_) | refine TC.cond rfl (fun c1 => ?_) (fun c1 => ?_)
  · skip
    rw [hm] at c1; cases c1
  · skip
    refine TC.env (E' := [(1, _), (2, _), (3, _)]) (Sub.cons rfl (Sub.cons rfl (Sub.cons rfl (Sub.nil _)))) ?_
    refine TC.skip ?_
    refine AtX.then ?_
    refine TC.env (E' := [(1, _), (2, _), (3, _)]) (Sub.cons rfl (Sub.cons rfl (Sub.cons rfl (Sub.nil _)))) ?_
    refine TC.seq ?_
    refine TC.draw ((b1, .cells #[.int .u32 p, .int .i64 pl, .int .i64 kd, .slice A d.length c] 31 (0, 0)) :: M) mixed ?_
    refine TA.take 0 rfl rfl rfl (Nat.le_of_ble_eq_true rfl) (by kernel_rfl) (by kernel_rfl) (by kernel_rfl) (listed' := #[true, false, false, false, false, false, false, false, false, false, false, false, false, false, false, false, false, false, false, false, false, false]) (by kernel_rfl) (by first | exact ro_refl | exact ro_tail ro_refl | exact ro_tail (ro_tail ro_refl) | exact ro_app ro_refl | exact ro_tail (ro_app ro_refl)) (Val.fieldAddr rfl fl31_0 sz22 rfl) ?_
    first
      | refine TA.take 1 rfl rfl rfl (Nat.le_of_ble_eq_true rfl) (by kernel_rfl) (by kernel_rfl) (by kernel_rfl) (listed' := #[true, true, false, false, false, false, false, false, false, false, false, false, false, false, false, false, false, false, false, false, false, false]) (by kernel_rfl) (by first | exact ro_refl | exact ro_tail ro_refl | exact ro_tail (ro_tail ro_refl) | exact ro_app ro_refl | exact ro_tail (ro_app ro_refl)) (Val.load 0 rfl ag22 rfl rfl) ?_
      | refine TA.take 1 rfl rfl rfl (Nat.le_of_ble_eq_true rfl) (by kernel_rfl) (by kernel_rfl) (by kernel_rfl) (listed' := #[true, true, false, false, false, false, false, false, false, false, false, false, false, false, false, false, false, false, false, false, false, false]) (by kernel_rfl) (by first | exact ro_refl | exact ro_tail ro_refl | exact ro_tail (ro_tail ro_refl) | exact ro_app ro_refl | exact ro_tail (ro_app ro_refl)) (Val.load 1 rfl ag22 rfl rfl) ?_
      | refine TA.take 1 rfl rfl rfl (Nat.le_of_ble_eq_true rfl) (by kernel_rfl) (by kernel_rfl) (by kernel_rfl) (listed' := #[true, true, false, false, false, false, false, false, false, false, false, false, false, false, false, false, false, false, false, false, false, false]) (by kernel_rfl) (by first | exact ro_refl | exact ro_tail ro_refl | exact ro_tail (ro_tail ro_refl) | exact ro_app ro_refl | exact ro_tail (ro_app ro_refl)) (Val.load 2 rfl ag22 rfl rfl) ?_
      | refine TA.take 1 rfl rfl rfl (Nat.le_of_ble_eq_true rfl) (by kernel_rfl) (by kernel_rfl) (by kernel_rfl) (listed' := #[true, true, false, false, false, false, false, false, false, false, false, false, false, false, false, false, false, false, false, false, false, false]) (by kernel_rfl) (by first | exact ro_refl | exact ro_tail ro_refl | exact ro_tail (ro_tail ro_refl) | exact ro_app ro_refl | exact ro_tail (ro_app ro_refl)) (Val.load 3 rfl ag22 rfl rfl) ?_
      | refine TA.take 1 rfl rfl rfl (Nat.le_of_ble_eq_true rfl) (by kernel_rfl) (by kernel_rfl) (by kernel_rfl) (listed' := #[true, true, false, false, false, false, false, false, false, false, false, false, false, false, false, false, false, false, false, false, false, false]) (by kernel_rfl) (by first | exact ro_refl | exact ro_tail ro_refl | exact ro_tail (ro_tail ro_refl) | exact ro_app ro_refl | exact ro_tail (ro_app ro_refl)) (Val.load 4 rfl ag22 rfl rfl) ?_
      | refine TA.take 1 rfl rfl rfl (Nat.le_of_ble_eq_true rfl) (by kernel_rfl) (by kernel_rfl) (by kernel_rfl) (listed' := #[true, true, false, false, false, false, false, false, false, false, false, false, false, false, false, false, false, false, false, false, false, false]) (by kernel_rfl) (by first | exact ro_refl | exact ro_tail ro_refl | exact ro_tail (ro_tail ro_refl) | exact ro_app ro_refl | exact ro_tail (ro_app ro_refl)) (Val.load 5 rfl ag22 rfl rfl) ?_
    refine TA.take 2 rfl rfl rfl (Nat.le_of_ble_eq_true rfl) (by kernel_rfl) (by kernel_rfl) (by kernel_rfl) (listed' := #[true, true, true, false, false, false, false, false, false, false, false, false, false, false, false, false, false, false, false, false, false, false]) (by kernel_rfl) (by first | exact ro_refl | exact ro_tail ro_refl | exact ro_tail (ro_tail ro_refl) | exact ro_app ro_refl | exact ro_tail (ro_app ro_refl)) (Val.convI rfl iu22 in55 (w_u64 (by omega) (by omega))) ?_
    refine TA.take 5 rfl rfl rfl (Nat.le_of_ble_eq_true rfl) (by kernel_rfl) (by kernel_rfl) (by kernel_rfl) (listed' := #[true, true, true, false, false, true, false, false, false, false, false, false, false, false, false, false, false, false, false, false, false, false]) (by kernel_rfl) (by first | exact ro_refl | exact ro_tail ro_refl | exact ro_tail (ro_tail ro_refl) | exact ro_app ro_refl | exact ro_tail (ro_app ro_refl)) (Val.fieldAddr rfl fl31_1 sz3 rfl) ?_
    first
      | refine TA.take 6 rfl rfl rfl (Nat.le_of_ble_eq_true rfl) (by kernel_rfl) (by kernel_rfl) (by kernel_rfl) (listed' := #[true, true, true, false, false, true, true, false, false, false, false, false, false, false, false, false, false, false, false, false, false, false]) (by kernel_rfl) (by first | exact ro_refl | exact ro_tail ro_refl | exact ro_tail (ro_tail ro_refl) | exact ro_app ro_refl | exact ro_tail (ro_app ro_refl)) (Val.load 0 rfl ag3 rfl rfl) ?_
      | refine TA.take 6 rfl rfl rfl (Nat.le_of_ble_eq_true rfl) (by kernel_rfl) (by kernel_rfl) (by kernel_rfl) (listed' := #[true, true, true, false, false, true, true, false, false, false, false, false, false, false, false, false, false, false, false, false, false, false]) (by kernel_rfl) (by first | exact ro_refl | exact ro_tail ro_refl | exact ro_tail (ro_tail ro_refl) | exact ro_app ro_refl | exact ro_tail (ro_app ro_refl)) (Val.load 1 rfl ag3 rfl rfl) ?_
      | refine TA.take 6 rfl rfl rfl (Nat.le_of_ble_eq_true rfl) (by kernel_rfl) (by kernel_rfl) (by kernel_rfl) (listed' := #[true, true, true, false, false, true, true, false, false, false, false, false, false, false, false, false, false, false, false, false, false, false]) (by kernel_rfl) (by first | exact ro_refl | exact ro_tail ro_refl | exact ro_tail (ro_tail ro_refl) | exact ro_app ro_refl | exact ro_tail (ro_app ro_refl)) (Val.load 2 rfl ag3 rfl rfl) ?_
      | refine TA.take 6 rfl rfl rfl (Nat.le_of_ble_eq_true rfl) (by kernel_rfl) (by kernel_rfl) (by kernel_rfl) (listed' := #[true, true, true, false, false, true, true, false, false, false, false, false, false, false, false, false, false, false, false, false, false, false]) (by kernel_rfl) (by first | exact ro_refl | exact ro_tail ro_refl | exact ro_tail (ro_tail ro_refl) | exact ro_app ro_refl | exact ro_tail (ro_app ro_refl)) (Val.load 3 rfl ag3 rfl rfl) ?_
      | refine TA.take 6 rfl rfl rfl (Nat.le_of_ble_eq_true rfl) (by kernel_rfl) (by kernel_rfl) (by kernel_rfl) (listed' := #[true, true, true, false, false, true, true, false, false, false, false, false, false, false, false, false, false, false, false, false, false, false]) (by kernel_rfl) (by first | exact ro_refl | exact ro_tail ro_refl | exact ro_tail (ro_tail ro_refl) | exact ro_app ro_refl | exact ro_tail (ro_app ro_refl)) (Val.load 4 rfl ag3 rfl rfl) ?_
      | refine TA.take 6 rfl rfl rfl (Nat.le_of_ble_eq_true rfl) (by kernel_rfl) (by kernel_rfl) (by kernel_rfl) (listed' := #[true, true, true, false, false, true, true, false, false, false, false, false, false, false, false, false, false, false, false, false, false, false]) (by kernel_rfl) (by first | exact ro_refl | exact ro_tail ro_refl | exact ro_tail (ro_tail ro_refl) | exact ro_app ro_refl | exact ro_tail (ro_app ro_refl)) (Val.load 5 rfl ag3 rfl rfl) ?_
    refine TA.take 7 rfl rfl rfl (Nat.le_of_ble_eq_true rfl) (by kernel_rfl) (by kernel_rfl) (by kernel_rfl) (listed' := #[true, true, true, false, false, true, true, true, false, false, false, false, false, false, false, false, false, false, false, false, false, false]) (by kernel_rfl) (by first | exact ro_refl | exact ro_tail ro_refl | exact ro_tail (ro_tail ro_refl) | exact ro_app ro_refl | exact ro_tail (ro_app ro_refl)) (Val.convI rfl iu3 in5 w_b8) ?_
    refine TA.take 8 rfl rfl rfl (Nat.le_of_ble_eq_true rfl) (by kernel_rfl) (by kernel_rfl) (by kernel_rfl) (listed' := #[true, true, true, false, false, true, true, true, true, false, false, false, false, false, false, false, false, false, false, false, false, false]) (by kernel_rfl) (by first | exact ro_refl | exact ro_tail ro_refl | exact ro_tail (ro_tail ro_refl) | exact ro_app ro_refl | exact ro_tail (ro_app ro_refl)) (Val.fieldAddr rfl fl31_1 sz3 rfl) ?_
    first
      | refine TA.take 9 rfl rfl rfl (Nat.le_of_ble_eq_true rfl) (by kernel_rfl) (by kernel_rfl) (by kernel_rfl) (listed' := #[true, true, true, false, false, true, true, true, true, true, false, false, false, false, false, false, false, false, false, false, false, false]) (by kernel_rfl) (by first | exact ro_refl | exact ro_tail ro_refl | exact ro_tail (ro_tail ro_refl) | exact ro_app ro_refl | exact ro_tail (ro_app ro_refl)) (Val.load 0 rfl ag3 rfl rfl) ?_
      | refine TA.take 9 rfl rfl rfl (Nat.le_of_ble_eq_true rfl) (by kernel_rfl) (by kernel_rfl) (by kernel_rfl) (listed' := #[true, true, true, false, false, true, true, true, true, true, false, false, false, false, false, false, false, false, false, false, false, false]) (by kernel_rfl) (by first | exact ro_refl | exact ro_tail ro_refl | exact ro_tail (ro_tail ro_refl) | exact ro_app ro_refl | exact ro_tail (ro_app ro_refl)) (Val.load 1 rfl ag3 rfl rfl) ?_
      | refine TA.take 9 rfl rfl rfl (Nat.le_of_ble_eq_true rfl) (by kernel_rfl) (by kernel_rfl) (by kernel_rfl) (listed' := #[true, true, true, false, false, true, true, true, true, true, false, false, false, false, false, false, false, false, false, false, false, false]) (by kernel_rfl) (by first | exact ro_refl | exact ro_tail ro_refl | exact ro_tail (ro_tail ro_refl) | exact ro_app ro_refl | exact ro_tail (ro_app ro_refl)) (Val.load 2 rfl ag3 rfl rfl) ?_
      | refine TA.take 9 rfl rfl rfl (Nat.le_of_ble_eq_true rfl) (by kernel_rfl) (by kernel_rfl) (by kernel_rfl) (listed' := #[true, true, true, false, false, true, true, true, true, true, false, false, false, false, false, false, false, false, false, false, false, false]) (by kernel_rfl) (by first | exact ro_refl | exact ro_tail ro_refl | exact ro_tail (ro_tail ro_refl) | exact ro_app ro_refl | exact ro_tail (ro_app ro_refl)) (Val.load 3 rfl ag3 rfl rfl) ?_
      | refine TA.take 9 rfl rfl rfl (Nat.le_of_ble_eq_true rfl) (by kernel_rfl) (by kernel_rfl) (by kernel_rfl) (listed' := #[true, true, true, false, false, true, true, true, true, true, false, false, false, false, false, false, false, false, false, false, false, false]) (by kernel_rfl) (by first | exact ro_refl | exact ro_tail ro_refl | exact ro_tail (ro_tail ro_refl) | exact ro_app ro_refl | exact ro_tail (ro_app ro_refl)) (Val.load 4 rfl ag3 rfl rfl) ?_
      | refine TA.take 9 rfl rfl rfl (Nat.le_of_ble_eq_true rfl) (by kernel_rfl) (by kernel_rfl) (by kernel_rfl) (listed' := #[true, true, true, false, false, true, true, true, true, true, false, false, false, false, false, false, false, false, false, false, false, false]) (by kernel_rfl) (by first | exact ro_refl | exact ro_tail ro_refl | exact ro_tail (ro_tail ro_refl) | exact ro_app ro_refl | exact ro_tail (ro_app ro_refl)) (Val.load 5 rfl ag3 rfl rfl) ?_
    refine TA.take 10 rfl rfl rfl (Nat.le_of_ble_eq_true rfl) (by kernel_rfl) (by kernel_rfl) (by kernel_rfl) (listed' := #[true, true, true, false, false, true, true, true, true, true, true, false, false, false, false, false, false, false, false, false, false, false]) (by kernel_rfl) (by first | exact ro_refl | exact ro_tail ro_refl | exact ro_tail (ro_tail ro_refl) | exact ro_app ro_refl | exact ro_tail (ro_app ro_refl)) (Val.shr rfl rfl (by omega) (shr8 _)) ?_
    refine TA.take 11 rfl rfl rfl (Nat.le_of_ble_eq_true rfl) (by kernel_rfl) (by kernel_rfl) (by kernel_rfl) (listed' := #[true, true, true, false, false, true, true, true, true, true, true, true, false, false, false, false, false, false, false, false, false, false]) (by kernel_rfl) (by first | exact ro_refl | exact ro_tail ro_refl | exact ro_tail (ro_tail ro_refl) | exact ro_app ro_refl | exact ro_tail (ro_app ro_refl)) (Val.convI rfl iu3 in5 w_b8) ?_
    refine TA.take 12 rfl rfl rfl (Nat.le_of_ble_eq_true rfl) (by kernel_rfl) (by kernel_rfl) (by kernel_rfl) (listed' := #[true, true, true, false, false, true, true, true, true, true, true, true, true, false, false, false, false, false, false, false, false, false]) (by kernel_rfl) (by first | exact ro_refl | exact ro_tail ro_refl | exact ro_tail (ro_tail ro_refl) | exact ro_app ro_refl | exact ro_tail (ro_app ro_refl)) (Val.fieldAddr rfl fl31_2 sz3 rfl) ?_
    first
      | refine TA.take 13 rfl rfl rfl (Nat.le_of_ble_eq_true rfl) (by kernel_rfl) (by kernel_rfl) (by kernel_rfl) (listed' := #[true, true, true, false, false, true, true, true, true, true, true, true, true, true, false, false, false, false, false, false, false, false]) (by kernel_rfl) (by first | exact ro_refl | exact ro_tail ro_refl | exact ro_tail (ro_tail ro_refl) | exact ro_app ro_refl | exact ro_tail (ro_app ro_refl)) (Val.load 0 rfl ag3 rfl rfl) ?_
      | refine TA.take 13 rfl rfl rfl (Nat.le_of_ble_eq_true rfl) (by kernel_rfl) (by kernel_rfl) (by kernel_rfl) (listed' := #[true, true, true, false, false, true, true, true, true, true, true, true, true, true, false, false, false, false, false, false, false, false]) (by kernel_rfl) (by first | exact ro_refl | exact ro_tail ro_refl | exact ro_tail (ro_tail ro_refl) | exact ro_app ro_refl | exact ro_tail (ro_app ro_refl)) (Val.load 1 rfl ag3 rfl rfl) ?_
      | refine TA.take 13 rfl rfl rfl (Nat.le_of_ble_eq_true rfl) (by kernel_rfl) (by kernel_rfl) (by kernel_rfl) (listed' := #[true, true, true, false, false, true, true, true, true, true, true, true, true, true, false, false, false, false, false, false, false, false]) (by kernel_rfl) (by first | exact ro_refl | exact ro_tail ro_refl | exact ro_tail (ro_tail ro_refl) | exact ro_app ro_refl | exact ro_tail (ro_app ro_refl)) (Val.load 2 rfl ag3 rfl rfl) ?_
      | refine TA.take 13 rfl rfl rfl (Nat.le_of_ble_eq_true rfl) (by kernel_rfl) (by kernel_rfl) (by kernel_rfl) (listed' := #[true, true, true, false, false, true, true, true, true, true, true, true, true, true, false, false, false, false, false, false, false, false]) (by kernel_rfl) (by first | exact ro_refl | exact ro_tail ro_refl | exact ro_tail (ro_tail ro_refl) | exact ro_app ro_refl | exact ro_tail (ro_app ro_refl)) (Val.load 3 rfl ag3 rfl rfl) ?_
      | refine TA.take 13 rfl rfl rfl (Nat.le_of_ble_eq_true rfl) (by kernel_rfl) (by kernel_rfl) (by kernel_rfl) (listed' := #[true, true, true, false, false, true, true, true, true, true, true, true, true, true, false, false, false, false, false, false, false, false]) (by kernel_rfl) (by first | exact ro_refl | exact ro_tail ro_refl | exact ro_tail (ro_tail ro_refl) | exact ro_app ro_refl | exact ro_tail (ro_app ro_refl)) (Val.load 4 rfl ag3 rfl rfl) ?_
      | refine TA.take 13 rfl rfl rfl (Nat.le_of_ble_eq_true rfl) (by kernel_rfl) (by kernel_rfl) (by kernel_rfl) (listed' := #[true, true, true, false, false, true, true, true, true, true, true, true, true, true, false, false, false, false, false, false, false, false]) (by kernel_rfl) (by first | exact ro_refl | exact ro_tail ro_refl | exact ro_tail (ro_tail ro_refl) | exact ro_app ro_refl | exact ro_tail (ro_app ro_refl)) (Val.load 5 rfl ag3 rfl rfl) ?_
    refine TA.take 14 rfl rfl rfl (Nat.le_of_ble_eq_true rfl) (by kernel_rfl) (by kernel_rfl) (by kernel_rfl) (listed' := #[true, true, true, false, false, true, true, true, true, true, true, true, true, true, true, false, false, false, false, false, false, false]) (by kernel_rfl) (by first | exact ro_refl | exact ro_tail ro_refl | exact ro_tail (ro_tail ro_refl) | exact ro_app ro_refl | exact ro_tail (ro_app ro_refl)) (Val.convI rfl iu3 in5 w_b8) ?_
    refine TA.take 15 rfl rfl rfl (Nat.le_of_ble_eq_true rfl) (by kernel_rfl) (by kernel_rfl) (by kernel_rfl) (listed' := #[true, true, true, false, false, true, true, true, true, true, true, true, true, true, true, true, false, false, false, false, false, false]) (by kernel_rfl) (by first | exact ro_refl | exact ro_tail ro_refl | exact ro_tail (ro_tail ro_refl) | exact ro_app ro_refl | exact ro_tail (ro_app ro_refl)) (Val.fieldAddr rfl fl31_3 sz23 rfl) ?_
    first
      | refine TA.take 16 rfl rfl rfl (Nat.le_of_ble_eq_true rfl) (by kernel_rfl) (by kernel_rfl) (by kernel_rfl) (listed' := #[true, true, true, false, false, true, true, true, true, true, true, true, true, true, true, true, true, false, false, false, false, false]) (by kernel_rfl) (by first | exact ro_refl | exact ro_tail ro_refl | exact ro_tail (ro_tail ro_refl) | exact ro_app ro_refl | exact ro_tail (ro_app ro_refl)) (Val.load 0 rfl ag23 rfl rfl) ?_
      | refine TA.take 16 rfl rfl rfl (Nat.le_of_ble_eq_true rfl) (by kernel_rfl) (by kernel_rfl) (by kernel_rfl) (listed' := #[true, true, true, false, false, true, true, true, true, true, true, true, true, true, true, true, true, false, false, false, false, false]) (by kernel_rfl) (by first | exact ro_refl | exact ro_tail ro_refl | exact ro_tail (ro_tail ro_refl) | exact ro_app ro_refl | exact ro_tail (ro_app ro_refl)) (Val.load 1 rfl ag23 rfl rfl) ?_
      | refine TA.take 16 rfl rfl rfl (Nat.le_of_ble_eq_true rfl) (by kernel_rfl) (by kernel_rfl) (by kernel_rfl) (listed' := #[true, true, true, false, false, true, true, true, true, true, true, true, true, true, true, true, true, false, false, false, false, false]) (by kernel_rfl) (by first | exact ro_refl | exact ro_tail ro_refl | exact ro_tail (ro_tail ro_refl) | exact ro_app ro_refl | exact ro_tail (ro_app ro_refl)) (Val.load 2 rfl ag23 rfl rfl) ?_
      | refine TA.take 16 rfl rfl rfl (Nat.le_of_ble_eq_true rfl) (by kernel_rfl) (by kernel_rfl) (by kernel_rfl) (listed' := #[true, true, true, false, false, true, true, true, true, true, true, true, true, true, true, true, true, false, false, false, false, false]) (by kernel_rfl) (by first | exact ro_refl | exact ro_tail ro_refl | exact ro_tail (ro_tail ro_refl) | exact ro_app ro_refl | exact ro_tail (ro_app ro_refl)) (Val.load 3 rfl ag23 rfl rfl) ?_
      | refine TA.take 16 rfl rfl rfl (Nat.le_of_ble_eq_true rfl) (by kernel_rfl) (by kernel_rfl) (by kernel_rfl) (listed' := #[true, true, true, false, false, true, true, true, true, true, true, true, true, true, true, true, true, false, false, false, false, false]) (by kernel_rfl) (by first | exact ro_refl | exact ro_tail ro_refl | exact ro_tail (ro_tail ro_refl) | exact ro_app ro_refl | exact ro_tail (ro_app ro_refl)) (Val.load 4 rfl ag23 rfl rfl) ?_
      | refine TA.take 16 rfl rfl rfl (Nat.le_of_ble_eq_true rfl) (by kernel_rfl) (by kernel_rfl) (by kernel_rfl) (listed' := #[true, true, true, false, false, true, true, true, true, true, true, true, true, true, true, true, true, false, false, false, false, false]) (by kernel_rfl) (by first | exact ro_refl | exact ro_tail ro_refl | exact ro_tail (ro_tail ro_refl) | exact ro_app ro_refl | exact ro_tail (ro_app ro_refl)) (Val.load 5 rfl ag23 rfl rfl) ?_
    refine TA.take 17 rfl rfl rfl (Nat.le_of_ble_eq_true rfl) (by kernel_rfl) (by kernel_rfl) (by kernel_rfl) (listed' := #[true, true, true, false, false, true, true, true, true, true, true, true, true, true, true, true, true, true, false, false, false, false]) (by kernel_rfl) (by first | exact ro_refl | exact ro_tail ro_refl | exact ro_tail (ro_tail ro_refl) | exact ro_app ro_refl | exact ro_tail (ro_app ro_refl)) (Val.lenSl rfl rfl sl23) ?_
    refine TA.take 18 rfl rfl rfl (Nat.le_of_ble_eq_true rfl) (by kernel_rfl) (by kernel_rfl) (by kernel_rfl) (listed' := #[true, true, true, false, false, true, true, true, true, true, true, true, true, true, true, true, true, true, true, false, false, false]) (by kernel_rfl) (by first | exact ro_refl | exact ro_tail ro_refl | exact ro_tail (ro_tail ro_refl) | exact ro_app ro_refl | exact ro_tail (ro_app ro_refl)) (Val.convI rfl iu3 in5 w_b8) ?_
    refine TA.two 3 19 (by kernel_rfl) ?_ ?_
    · skip
      refine TO.does (listed' := #[true, true, true, true, false, true, true, true, true, true, true, true, true, true, true, true, true, true, true, false, false, false]) (some 11) rfl rfl rfl rfl (by kernel_rfl) (Does.callF go22 rfl (sipPut_fn _ _)) ?_
      rintro _ _ ⟨b2, c2, sp2, rfl, hc2, rfl⟩
      refine ⟨(by first | exact ro_refl | exact ro_tail ro_refl | exact ro_tail (ro_tail ro_refl) | exact ro_app ro_refl | exact ro_tail (ro_app ro_refl)), ?_⟩
      refine TA.take 4 rfl rfl rfl (Nat.le_of_ble_eq_true rfl) (by kernel_rfl) (by kernel_rfl) (by kernel_rfl) (listed' := #[true, true, true, true, true, true, true, true, true, true, true, true, true, true, true, true, true, true, true, false, false, false]) (by kernel_rfl) (by first | exact ro_refl | exact ro_tail ro_refl | exact ro_tail (ro_tail ro_refl) | exact ro_app ro_refl | exact ro_tail (ro_app ro_refl)) (Val.sliceTo (j := 4) rfl sl23 sz5 rfl rfl (by first | decide | omega)) ?_
      refine TA.one 19 (by kernel_rfl) ?_
      refine TO.does (listed' := #[true, true, true, true, true, true, true, true, true, true, true, true, true, true, true, true, true, true, true, true, false, false]) (some 27) rfl rfl rfl rfl (by kernel_rfl) (Does.buildSlice sl23 sz5 ze5 (by decide) (by decide) rfl rfl rfl) ?_
      rintro _ _ ⟨b4, rfl, rfl⟩
      refine ⟨(by first | exact ro_refl | exact ro_tail ro_refl | exact ro_tail (ro_tail ro_refl) | exact ro_app ro_refl | exact ro_tail (ro_app ro_refl)), ?_⟩
      refine TA.one 20 (by kernel_rfl) ?_
      first
        | refine TO.does (listed' := #[true, true, true, true, true, true, true, true, true, true, true, true, true, true, true, true, true, true, true, true, true, false]) (some 28) rfl rfl rfl rfl (by kernel_rfl) (Does.appendS (xs := bv ((put8 p).take 4)) (ys := bv [b8 pl, b8 (pl / 256), b8 kd, b8 d.length]) (some (b2, c2, bv ((put8 p).drop 4) ++ sp2)) ((b1, _) :: M) (fun w h => own_split 4 (h.drop)) rfl rfl sl23 sz5 by5 ze5 rfl (slOk_split (by simp) (by simpa using hc2)) (.inl ⟨_, _, rfl, ⟨5, us23⟩, .some (Rd.get (i := 0) rfl rfl)⟩) rfl (bv_one _) (by omega) (by omega)) ?_
        | refine TO.does (listed' := #[true, true, true, true, true, true, true, true, true, true, true, true, true, true, true, true, true, true, true, true, true, false]) (some 28) rfl rfl rfl rfl (by kernel_rfl) (Does.appendS (xs := bv ((put8 p).take 4)) (ys := bv [b8 pl, b8 (pl / 256), b8 kd, b8 d.length]) (some (b2, c2, bv ((put8 p).drop 4) ++ sp2)) ((b1, _) :: M) (fun w h => own_split 4 (ro_del 1 rfl w h)) rfl rfl sl23 sz5 by5 ze5 rfl (slOk_split (by simp) (by simpa using hc2)) (.inl ⟨_, _, rfl, ⟨5, us23⟩, .some (Rd.get (i := 1) rfl rfl)⟩) rfl (bv_one _) (by omega) (by omega)) ?_
      rintro _ _ ⟨σ3, rfl, hok3, rfl⟩
      refine ⟨(by first | exact ro_refl | exact ro_tail ro_refl | exact ro_tail (ro_tail ro_refl) | exact ro_app ro_refl | exact ro_tail (ro_app ro_refl)), ?_⟩
      refine TA.take 21 rfl rfl rfl (Nat.le_of_ble_eq_true rfl) (by kernel_rfl) (by kernel_rfl) (by kernel_rfl) (listed' := #[true, true, true, true, true, true, true, true, true, true, true, true, true, true, true, true, true, true, true, true, true, true]) (by kernel_rfl) (by first | exact ro_refl | exact ro_tail ro_refl | exact ro_tail (ro_tail ro_refl) | exact ro_app ro_refl | exact ro_tail (ro_app ro_refl)) (Val.assign rfl) ?_
      refine TA.done (by kernel_rfl) ?_
      refine AtX.then ?_
      refine TC.env (E' := [(1, _), (2, _), (3, _), (4, _)]) (Sub.cons rfl (Sub.cons rfl (Sub.cons rfl (Sub.cons rfl (Sub.nil _))))) ?_
      refine TC.seq ?_
      refine TC.draw ((b1, .cells #[.int .u32 p, .int .i64 pl, .int .i64 kd, .slice A d.length c] 31 (0, 0)) :: M) mixed ?_
      refine TA.take 0 rfl rfl rfl (Nat.le_of_ble_eq_true rfl) (by kernel_rfl) (by kernel_rfl) (by kernel_rfl) (listed' := #[true, false, false, false, false, false, false, false, false, false]) (by kernel_rfl) (by first | exact ro_refl | exact ro_tail ro_refl | exact ro_tail (ro_tail ro_refl) | exact ro_app ro_refl | exact ro_tail (ro_app ro_refl)) (Val.move rfl) ?_
      refine TA.take 1 rfl rfl rfl (Nat.le_of_ble_eq_true rfl) (by kernel_rfl) (by kernel_rfl) (by kernel_rfl) (listed' := #[true, true, false, false, false, false, false, false, false, false]) (by kernel_rfl) (by first | exact ro_refl | exact ro_tail ro_refl | exact ro_tail (ro_tail ro_refl) | exact ro_app ro_refl | exact ro_tail (ro_app ro_refl)) (Val.fieldAddr rfl fl31_3 sz23 rfl) ?_
      first
        | refine TA.take 2 rfl rfl rfl (Nat.le_of_ble_eq_true rfl) (by kernel_rfl) (by kernel_rfl) (by kernel_rfl) (listed' := #[true, true, true, false, false, false, false, false, false, false]) (by kernel_rfl) (by first | exact ro_refl | exact ro_tail ro_refl | exact ro_tail (ro_tail ro_refl) | exact ro_app ro_refl | exact ro_tail (ro_app ro_refl)) (Val.load 0 rfl ag23 rfl rfl) ?_
        | refine TA.take 2 rfl rfl rfl (Nat.le_of_ble_eq_true rfl) (by kernel_rfl) (by kernel_rfl) (by kernel_rfl) (listed' := #[true, true, true, false, false, false, false, false, false, false]) (by kernel_rfl) (by first | exact ro_refl | exact ro_tail ro_refl | exact ro_tail (ro_tail ro_refl) | exact ro_app ro_refl | exact ro_tail (ro_app ro_refl)) (Val.load 1 rfl ag23 rfl rfl) ?_
        | refine TA.take 2 rfl rfl rfl (Nat.le_of_ble_eq_true rfl) (by kernel_rfl) (by kernel_rfl) (by kernel_rfl) (listed' := #[true, true, true, false, false, false, false, false, false, false]) (by kernel_rfl) (by first | exact ro_refl | exact ro_tail ro_refl | exact ro_tail (ro_tail ro_refl) | exact ro_app ro_refl | exact ro_tail (ro_app ro_refl)) (Val.load 2 rfl ag23 rfl rfl) ?_
        | refine TA.take 2 rfl rfl rfl (Nat.le_of_ble_eq_true rfl) (by kernel_rfl) (by kernel_rfl) (by kernel_rfl) (listed' := #[true, true, true, false, false, false, false, false, false, false]) (by kernel_rfl) (by first | exact ro_refl | exact ro_tail ro_refl | exact ro_tail (ro_tail ro_refl) | exact ro_app ro_refl | exact ro_tail (ro_app ro_refl)) (Val.load 3 rfl ag23 rfl rfl) ?_
        | refine TA.take 2 rfl rfl rfl (Nat.le_of_ble_eq_true rfl) (by kernel_rfl) (by kernel_rfl) (by kernel_rfl) (listed' := #[true, true, true, false, false, false, false, false, false, false]) (by kernel_rfl) (by first | exact ro_refl | exact ro_tail ro_refl | exact ro_tail (ro_tail ro_refl) | exact ro_app ro_refl | exact ro_tail (ro_app ro_refl)) (Val.load 4 rfl ag23 rfl rfl) ?_
        | refine TA.take 2 rfl rfl rfl (Nat.le_of_ble_eq_true rfl) (by kernel_rfl) (by kernel_rfl) (by kernel_rfl) (listed' := #[true, true, true, false, false, false, false, false, false, false]) (by kernel_rfl) (by first | exact ro_refl | exact ro_tail ro_refl | exact ro_tail (ro_tail ro_refl) | exact ro_app ro_refl | exact ro_tail (ro_app ro_refl)) (Val.load 5 rfl ag23 rfl rfl) ?_
      refine TA.take 4 rfl rfl rfl (Nat.le_of_ble_eq_true rfl) (by kernel_rfl) (by kernel_rfl) (by kernel_rfl) (listed' := #[true, true, true, false, true, false, false, false, false, false]) (by kernel_rfl) (by first | exact ro_refl | exact ro_tail ro_refl | exact ro_tail (ro_tail ro_refl) | exact ro_app ro_refl | exact ro_tail (ro_app ro_refl)) (Val.fieldAddr rfl fl31_3 sz23 rfl) ?_
      first
        | refine TA.take 5 rfl rfl rfl (Nat.le_of_ble_eq_true rfl) (by kernel_rfl) (by kernel_rfl) (by kernel_rfl) (listed' := #[true, true, true, false, true, true, false, false, false, false]) (by kernel_rfl) (by first | exact ro_refl | exact ro_tail ro_refl | exact ro_tail (ro_tail ro_refl) | exact ro_app ro_refl | exact ro_tail (ro_app ro_refl)) (Val.load 0 rfl ag23 rfl rfl) ?_
        | refine TA.take 5 rfl rfl rfl (Nat.le_of_ble_eq_true rfl) (by kernel_rfl) (by kernel_rfl) (by kernel_rfl) (listed' := #[true, true, true, false, true, true, false, false, false, false]) (by kernel_rfl) (by first | exact ro_refl | exact ro_tail ro_refl | exact ro_tail (ro_tail ro_refl) | exact ro_app ro_refl | exact ro_tail (ro_app ro_refl)) (Val.load 1 rfl ag23 rfl rfl) ?_
        | refine TA.take 5 rfl rfl rfl (Nat.le_of_ble_eq_true rfl) (by kernel_rfl) (by kernel_rfl) (by kernel_rfl) (listed' := #[true, true, true, false, true, true, false, false, false, false]) (by kernel_rfl) (by first | exact ro_refl | exact ro_tail ro_refl | exact ro_tail (ro_tail ro_refl) | exact ro_app ro_refl | exact ro_tail (ro_app ro_refl)) (Val.load 2 rfl ag23 rfl rfl) ?_
        | refine TA.take 5 rfl rfl rfl (Nat.le_of_ble_eq_true rfl) (by kernel_rfl) (by kernel_rfl) (by kernel_rfl) (listed' := #[true, true, true, false, true, true, false, false, false, false]) (by kernel_rfl) (by first | exact ro_refl | exact ro_tail ro_refl | exact ro_tail (ro_tail ro_refl) | exact ro_app ro_refl | exact ro_tail (ro_app ro_refl)) (Val.load 3 rfl ag23 rfl rfl) ?_
        | refine TA.take 5 rfl rfl rfl (Nat.le_of_ble_eq_true rfl) (by kernel_rfl) (by kernel_rfl) (by kernel_rfl) (listed' := #[true, true, true, false, true, true, false, false, false, false]) (by kernel_rfl) (by first | exact ro_refl | exact ro_tail ro_refl | exact ro_tail (ro_tail ro_refl) | exact ro_app ro_refl | exact ro_tail (ro_app ro_refl)) (Val.load 4 rfl ag23 rfl rfl) ?_
        | refine TA.take 5 rfl rfl rfl (Nat.le_of_ble_eq_true rfl) (by kernel_rfl) (by kernel_rfl) (by kernel_rfl) (listed' := #[true, true, true, false, true, true, false, false, false, false]) (by kernel_rfl) (by first | exact ro_refl | exact ro_tail ro_refl | exact ro_tail (ro_tail ro_refl) | exact ro_app ro_refl | exact ro_tail (ro_app ro_refl)) (Val.load 5 rfl ag23 rfl rfl) ?_
      refine TA.take 6 rfl rfl rfl (Nat.le_of_ble_eq_true rfl) (by kernel_rfl) (by kernel_rfl) (by kernel_rfl) (listed' := #[true, true, true, false, true, true, true, false, false, false]) (by kernel_rfl) (by first | exact ro_refl | exact ro_tail ro_refl | exact ro_tail (ro_tail ro_refl) | exact ro_app ro_refl | exact ro_tail (ro_app ro_refl)) (Val.lenSl rfl rfl sl23) ?_
      refine TA.take 7 rfl rfl rfl (Nat.le_of_ble_eq_true rfl) (by kernel_rfl) (by kernel_rfl) (by kernel_rfl) (listed' := #[true, true, true, false, true, true, true, true, false, false]) (by kernel_rfl) (by first | exact ro_refl | exact ro_tail ro_refl | exact ro_tail (ro_tail ro_refl) | exact ro_app ro_refl | exact ro_tail (ro_app ro_refl)) (Val.sub rfl rfl (r := ((48 - d.length : Nat) : Int)) (by rw [w_i64 (by omega) (by omega)]; omega)) ?_
      refine TA.one 3 (by kernel_rfl) ?_
      refine TO.does (listed' := #[true, true, true, true, true, true, true, true, false, false]) (some 32) rfl rfl rfl rfl (by kernel_rfl) (Does.appendS (xs := bv ((put8 p).take 4) ++ bv [b8 pl, b8 (pl / 256), b8 kd, b8 d.length]) (ys := bv d) σ3 ((b1, _) :: M) ro_refl rfl rfl sl23 sz5 by5 ze5 rfl hok3 (srcB us23 ((hA.cons _).app _)) (by simp) (bv_one _) (by omega) (by omega)) ?_
      rintro _ _ ⟨σa, rfl, hoka, rfl⟩
      refine ⟨(by first | exact ro_refl | exact ro_tail ro_refl | exact ro_tail (ro_tail ro_refl) | exact ro_app ro_refl | exact ro_tail (ro_app ro_refl)), ?_⟩
      refine TA.one 8 (by kernel_rfl) ?_
      refine TO.does (listed' := #[true, true, true, true, true, true, true, true, true, false]) (some 37) rfl rfl rfl rfl (by kernel_rfl) (Does.appendS (xs := bv ((put8 p).take 4) ++ bv [b8 pl, b8 (pl / 256), b8 kd, b8 d.length] ++ bv d) (ys := bv (List.replicate (48 - d.length) 0)) σa ((b1, _) :: M) ro_refl rfl rfl sl23 sz5 by5 ze5 rfl hoka (srcZ ui3 (by omega)) (by simp) (bv_one _) (by omega) (by omega)) ?_
      rintro _ _ ⟨σ4, rfl, hok4, rfl⟩
      have eb : bv ((put8 p).take 4) ++ bv [b8 pl, b8 (pl / 256), b8 kd, b8 d.length] ++ bv d ++ bv (List.replicate (48 - d.length) 0) = bv (bodyB p pl kd d) := by simp [bodyB, headB, bv]
      rw [eb] at hok4 ⊢
      have e56 : 4 + 4 + d.length + (48 - d.length) = 56 := by omega
      rw [e56] at hok4 ⊢
      refine ⟨(by first | exact ro_refl | exact ro_tail ro_refl | exact ro_tail (ro_tail ro_refl) | exact ro_app ro_refl | exact ro_tail (ro_app ro_refl)), ?_⟩
      refine TA.take 9 rfl rfl rfl (Nat.le_of_ble_eq_true rfl) (by kernel_rfl) (by kernel_rfl) (by kernel_rfl) (listed' := #[true, true, true, true, true, true, true, true, true, true]) (by kernel_rfl) (by first | exact ro_refl | exact ro_tail ro_refl | exact ro_tail (ro_tail ro_refl) | exact ro_app ro_refl | exact ro_tail (ro_app ro_refl)) (Val.assign rfl) ?_
      refine TA.done (by kernel_rfl) ?_
      refine AtX.then ?_
      refine TC.env (E' := [(1, _), (2, _), (3, _), (4, _)]) (Sub.cons rfl (Sub.cons rfl (Sub.cons rfl (Sub.cons rfl (Sub.nil _))))) ?_
      refine TC.seq ?_
      refine TC.region ?_
      refine TL.val rfl rfl (Nat.le_of_ble_eq_true rfl) (Val.move rfl) ?_
      refine TL.val rfl rfl (Nat.le_of_ble_eq_true rfl) (Val.move rfl) ?_
      refine TL.does (some 40) rfl rfl rfl (Does.callF go19 rfl (Sum_fn (bodyB p pl kd d) _ _ _ _ (slRd hok4 (fun x h => List.mem_append_left _ h)) (by rw [bodyB_len _ _ _ _ hd]) (by rw [bodyB_len _ _ _ _ hd]; omega))) ?_
      rintro _ _ ⟨rfl, rfl⟩
      have hS : sum18 (bodyB p pl kd d) ≤ 256000000 := sumTo_bd _ _ (by rw [bodyB_len _ _ _ _ hd]; omega)
      refine TL.val rfl rfl (Nat.le_of_ble_eq_true rfl) (Val.convI rfl iu22 in55 (w_u64 (by omega) (by omega))) ?_
      refine TL.does (some 42) rfl rfl rfl (Does.callF go22 rfl (sipPut_fn _ _)) ?_
      rintro _ _ ⟨b5, c5, sp5, rfl, hc5, rfl⟩
      refine TL.val rfl rfl (Nat.le_of_ble_eq_true rfl) (Val.sliceTo (j := 4) rfl sl23 sz5 rfl rfl (by first | decide | omega)) ?_
      refine TL.does (some 44) rfl rfl rfl (Does.appendS (xs := bv (bodyB p pl kd d)) (ys := bv ((put8 (sum18 (bodyB p pl kd d) : Nat)).take 4)) σ4 ((b1, _) :: M) (ro_tail ro_refl) rfl rfl sl23 sz5 by5 ze5 rfl hok4 (srcB us23 (rd_rowB (i := 0) rfl 4 (by simp))) (by simp) (bv_one _) (by omega) (by omega)) ?_
      rintro _ _ ⟨σ5, rfl, hok5, rfl⟩
      refine TL.val rfl rfl (Nat.le_of_ble_eq_true rfl) (Val.assign rfl) ?_
      refine TL.nil ?_
      refine AtX.then ?_
      refine TC.env (E' := [(1, _), (2, _), (3, _), (4, _)]) (Sub.cons rfl (Sub.cons rfl (Sub.cons rfl (Sub.cons rfl (Sub.nil _))))) ?_
      refine TC.seq ?_
      refine TC.region ?_
      refine TL.val rfl rfl (Nat.le_of_ble_eq_true rfl) (Val.move rfl) ?_
      refine TL.val rfl rfl (Nat.le_of_ble_eq_true rfl) (Val.move rfl) ?_
      refine TL.val rfl rfl (Nat.le_of_ble_eq_true rfl) (Val.lenSl rfl rfl sl23) ?_
      refine TL.val rfl rfl (Nat.le_of_ble_eq_true rfl) (Val.sub rfl rfl (r := ((3 : Nat) : Int)) (by rw [w_i64 (by omega) (by omega)]; omega)) ?_
      refine TL.does (some 49) rfl rfl rfl (Does.appendS (ys := bv (List.replicate 3 0)) σ5 ((b1, _) :: M) ro_refl rfl rfl sl23 sz5 by5 ze5 rfl hok5 (srcZ ui3 (by omega)) (by simp) (bv_one _) (by omega) (by omega)) ?_
      rintro _ _ ⟨σ6, rfl, hok6, rfl⟩
      refine TL.val rfl rfl (Nat.le_of_ble_eq_true rfl) (Val.assign rfl) ?_
      refine TL.nil ?_
      refine AtX.then ?_
      refine TC.env (E' := [(1, _), (2, _), (3, _), (4, _)]) (Sub.cons rfl (Sub.cons rfl (Sub.cons rfl (Sub.cons rfl (Sub.nil _))))) ?_
      refine TC.seq ?_
      obtain ⟨b6, c6, sp6, rfl, hc6⟩ := hok6.some (by omega)
      refine TC.region ?_
      refine TL.val rfl rfl (Nat.le_of_ble_eq_true rfl) (Val.move rfl) ?_
      refine TL.val rfl rfl (Nat.le_of_ble_eq_true rfl) (Val.fieldAddr rfl fl31_0 sz22 rfl) ?_
      first
        | refine TL.val rfl rfl (Nat.le_of_ble_eq_true rfl) (Val.load 0 rfl ag22 rfl rfl) ?_
        | refine TL.val rfl rfl (Nat.le_of_ble_eq_true rfl) (Val.load 1 rfl ag22 rfl rfl) ?_
        | refine TL.val rfl rfl (Nat.le_of_ble_eq_true rfl) (Val.load 2 rfl ag22 rfl rfl) ?_
        | refine TL.val rfl rfl (Nat.le_of_ble_eq_true rfl) (Val.load 3 rfl ag22 rfl rfl) ?_
        | refine TL.val rfl rfl (Nat.le_of_ble_eq_true rfl) (Val.load 4 rfl ag22 rfl rfl) ?_
        | refine TL.val rfl rfl (Nat.le_of_ble_eq_true rfl) (Val.load 5 rfl ag22 rfl rfl) ?_
      refine TL.does (some 53) rfl rfl rfl (Does.callF go17 rfl (Mark_fn _ _)) ?_
      rintro _ _ ⟨rfl, rfl⟩
      refine TL.does (some 54) rfl rfl rfl (Does.buildSlice sl23 sz5 ze5 (by decide) (by decide) rfl rfl rfl) ?_
      rintro _ _ ⟨b8, rfl, rfl⟩
      refine TL.does (some 55) rfl rfl rfl (Does.appendS (ys := bv [markB p]) (some (b6, c6, sp6)) ((b1, _) :: M) (ro_tail ro_refl) rfl rfl sl23 sz5 by5 ze5 rfl hok6 (.inl ⟨_, _, rfl, ⟨5, us23⟩, .some (Rd.get (i := 0) rfl rfl)⟩) rfl (bv_one _) (by omega) (by omega)) ?_
      rintro _ _ ⟨σ7, rfl, hok7, rfl⟩
      refine TL.val rfl rfl (Nat.le_of_ble_eq_true rfl) (Val.assign rfl) ?_
      refine TL.val rfl rfl (Nat.le_of_ble_eq_true rfl) (Val.assign rfl) ?_
      refine TL.nil ?_
      obtain ⟨b7, c7, sp7, rfl, hc7⟩ := hok7.some (by omega)
      refine AtX.then ?_
      refine TC.env (E' := [(2, _), (3, _)]) (Sub.cons rfl (Sub.cons rfl (Sub.nil _))) ?_
      refine TC.ret2 (fn := Try.f10) (fun _ _ h => h) rfl (RV.tmp rfl) (RV.tmp rfl) (M' := (b7, row 5 (bv (cellB p pl kd d) ++ sp7)) :: M) (fun w h => by have h := ro_del 1 rfl w h; simpa [slH, cellB, bv] using h) ?_
      exact ⟨b7, c7, sp7, by simp [slA, slC], by have := hok7.1; simp at this; simp at hc7; omega, rfl⟩
    · skip
      refine TO.does (listed' := #[true, true, true, false, false, true, true, true, true, true, true, true, true, true, true, true, true, true, true, true, false, false]) (some 27) rfl rfl rfl rfl (by kernel_rfl) (Does.buildSlice sl23 sz5 ze5 (by decide) (by decide) rfl rfl rfl) ?_
      rintro _ _ ⟨b9, rfl, rfl⟩
      refine ⟨(by first | exact ro_refl | exact ro_tail ro_refl | exact ro_tail (ro_tail ro_refl) | exact ro_app ro_refl | exact ro_tail (ro_app ro_refl)), ?_⟩
      refine TA.one 3 (by kernel_rfl) ?_
      refine TO.does (listed' := #[true, true, true, true, false, true, true, true, true, true, true, true, true, true, true, true, true, true, true, true, false, false]) (some 11) rfl rfl rfl rfl (by kernel_rfl) (Does.callF go22 rfl (sipPut_fn _ _)) ?_
      rintro _ _ ⟨b2, c2, sp2, rfl, hc2, rfl⟩
      refine ⟨(by first | exact ro_refl | exact ro_tail ro_refl | exact ro_tail (ro_tail ro_refl) | exact ro_app ro_refl | exact ro_tail (ro_app ro_refl)), ?_⟩
      refine TA.take 4 rfl rfl rfl (Nat.le_of_ble_eq_true rfl) (by kernel_rfl) (by kernel_rfl) (by kernel_rfl) (listed' := #[true, true, true, true, true, true, true, true, true, true, true, true, true, true, true, true, true, true, true, true, false, false]) (by kernel_rfl) (by first | exact ro_refl | exact ro_tail ro_refl | exact ro_tail (ro_tail ro_refl) | exact ro_app ro_refl | exact ro_tail (ro_app ro_refl)) (Val.sliceTo (j := 4) rfl sl23 sz5 rfl rfl (by first | decide | omega)) ?_
      refine TA.one 20 (by kernel_rfl) ?_
      first
        | refine TO.does (listed' := #[true, true, true, true, true, true, true, true, true, true, true, true, true, true, true, true, true, true, true, true, true, false]) (some 28) rfl rfl rfl rfl (by kernel_rfl) (Does.appendS (xs := bv ((put8 p).take 4)) (ys := bv [b8 pl, b8 (pl / 256), b8 kd, b8 d.length]) (some (b2, c2, bv ((put8 p).drop 4) ++ sp2)) ((b1, _) :: M) (fun w h => own_split 4 (h.drop)) rfl rfl sl23 sz5 by5 ze5 rfl (slOk_split (by simp) (by simpa using hc2)) (.inl ⟨_, _, rfl, ⟨5, us23⟩, .some (Rd.get (i := 0) rfl rfl)⟩) rfl (bv_one _) (by omega) (by omega)) ?_
        | refine TO.does (listed' := #[true, true, true, true, true, true, true, true, true, true, true, true, true, true, true, true, true, true, true, true, true, false]) (some 28) rfl rfl rfl rfl (by kernel_rfl) (Does.appendS (xs := bv ((put8 p).take 4)) (ys := bv [b8 pl, b8 (pl / 256), b8 kd, b8 d.length]) (some (b2, c2, bv ((put8 p).drop 4) ++ sp2)) ((b1, _) :: M) (fun w h => own_split 4 (ro_del 1 rfl w h)) rfl rfl sl23 sz5 by5 ze5 rfl (slOk_split (by simp) (by simpa using hc2)) (.inl ⟨_, _, rfl, ⟨5, us23⟩, .some (Rd.get (i := 1) rfl rfl)⟩) rfl (bv_one _) (by omega) (by omega)) ?_
      rintro _ _ ⟨σ3, rfl, hok3, rfl⟩
      refine ⟨(by first | exact ro_refl | exact ro_tail ro_refl | exact ro_tail (ro_tail ro_refl) | exact ro_app ro_refl | exact ro_tail (ro_app ro_refl)), ?_⟩
      refine TA.take 21 rfl rfl rfl (Nat.le_of_ble_eq_true rfl) (by kernel_rfl) (by kernel_rfl) (by kernel_rfl) (listed' := #[true, true, true, true, true, true, true, true, true, true, true, true, true, true, true, true, true, true, true, true, true, true]) (by kernel_rfl) (by first | exact ro_refl | exact ro_tail ro_refl | exact ro_tail (ro_tail ro_refl) | exact ro_app ro_refl | exact ro_tail (ro_app ro_refl)) (Val.assign rfl) ?_
      refine TA.done (by kernel_rfl) ?_
      refine AtX.then ?_
      refine TC.env (E' := [(1, _), (2, _), (3, _), (4, _)]) (Sub.cons rfl (Sub.cons rfl (Sub.cons rfl (Sub.cons rfl (Sub.nil _))))) ?_
      refine TC.seq ?_
      refine TC.draw ((b1, .cells #[.int .u32 p, .int .i64 pl, .int .i64 kd, .slice A d.length c] 31 (0, 0)) :: M) mixed ?_
      refine TA.take 0 rfl rfl rfl (Nat.le_of_ble_eq_true rfl) (by kernel_rfl) (by kernel_rfl) (by kernel_rfl) (listed' := #[true, false, false, false, false, false, false, false, false, false]) (by kernel_rfl) (by first | exact ro_refl | exact ro_tail ro_refl | exact ro_tail (ro_tail ro_refl) | exact ro_app ro_refl | exact ro_tail (ro_app ro_refl)) (Val.move rfl) ?_
      refine TA.take 1 rfl rfl rfl (Nat.le_of_ble_eq_true rfl) (by kernel_rfl) (by kernel_rfl) (by kernel_rfl) (listed' := #[true, true, false, false, false, false, false, false, false, false]) (by kernel_rfl) (by first | exact ro_refl | exact ro_tail ro_refl | exact ro_tail (ro_tail ro_refl) | exact ro_app ro_refl | exact ro_tail (ro_app ro_refl)) (Val.fieldAddr rfl fl31_3 sz23 rfl) ?_
      first
        | refine TA.take 2 rfl rfl rfl (Nat.le_of_ble_eq_true rfl) (by kernel_rfl) (by kernel_rfl) (by kernel_rfl) (listed' := #[true, true, true, false, false, false, false, false, false, false]) (by kernel_rfl) (by first | exact ro_refl | exact ro_tail ro_refl | exact ro_tail (ro_tail ro_refl) | exact ro_app ro_refl | exact ro_tail (ro_app ro_refl)) (Val.load 0 rfl ag23 rfl rfl) ?_
        | refine TA.take 2 rfl rfl rfl (Nat.le_of_ble_eq_true rfl) (by kernel_rfl) (by kernel_rfl) (by kernel_rfl) (listed' := #[true, true, true, false, false, false, false, false, false, false]) (by kernel_rfl) (by first | exact ro_refl | exact ro_tail ro_refl | exact ro_tail (ro_tail ro_refl) | exact ro_app ro_refl | exact ro_tail (ro_app ro_refl)) (Val.load 1 rfl ag23 rfl rfl) ?_
        | refine TA.take 2 rfl rfl rfl (Nat.le_of_ble_eq_true rfl) (by kernel_rfl) (by kernel_rfl) (by kernel_rfl) (listed' := #[true, true, true, false, false, false, false, false, false, false]) (by kernel_rfl) (by first | exact ro_refl | exact ro_tail ro_refl | exact ro_tail (ro_tail ro_refl) | exact ro_app ro_refl | exact ro_tail (ro_app ro_refl)) (Val.load 2 rfl ag23 rfl rfl) ?_
        | refine TA.take 2 rfl rfl rfl (Nat.le_of_ble_eq_true rfl) (by kernel_rfl) (by kernel_rfl) (by kernel_rfl) (listed' := #[true, true, true, false, false, false, false, false, false, false]) (by kernel_rfl) (by first | exact ro_refl | exact ro_tail ro_refl | exact ro_tail (ro_tail ro_refl) | exact ro_app ro_refl | exact ro_tail (ro_app ro_refl)) (Val.load 3 rfl ag23 rfl rfl) ?_
        | refine TA.take 2 rfl rfl rfl (Nat.le_of_ble_eq_true rfl) (by kernel_rfl) (by kernel_rfl) (by kernel_rfl) (listed' := #[true, true, true, false, false, false, false, false, false, false]) (by kernel_rfl) (by first | exact ro_refl | exact ro_tail ro_refl | exact ro_tail (ro_tail ro_refl) | exact ro_app ro_refl | exact ro_tail (ro_app ro_refl)) (Val.load 4 rfl ag23 rfl rfl) ?_
        | refine TA.take 2 rfl rfl rfl (Nat.le_of_ble_eq_true rfl) (by kernel_rfl) (by kernel_rfl) (by kernel_rfl) (listed' := #[true, true, true, false, false, false, false, false, false, false]) (by kernel_rfl) (by first | exact ro_refl | exact ro_tail ro_refl | exact ro_tail (ro_tail ro_refl) | exact ro_app ro_refl | exact ro_tail (ro_app ro_refl)) (Val.load 5 rfl ag23 rfl rfl) ?_
      refine TA.take 4 rfl rfl rfl (Nat.le_of_ble_eq_true rfl) (by kernel_rfl) (by kernel_rfl) (by kernel_rfl) (listed' := #[true, true, true, false, true, false, false, false, false, false]) (by kernel_rfl) (by first | exact ro_refl | exact ro_tail ro_refl | exact ro_tail (ro_tail ro_refl) | exact ro_app ro_refl | exact ro_tail (ro_app ro_refl)) (Val.fieldAddr rfl fl31_3 sz23 rfl) ?_
      first
        | refine TA.take 5 rfl rfl rfl (Nat.le_of_ble_eq_true rfl) (by kernel_rfl) (by kernel_rfl) (by kernel_rfl) (listed' := #[true, true, true, false, true, true, false, false, false, false]) (by kernel_rfl) (by first | exact ro_refl | exact ro_tail ro_refl | exact ro_tail (ro_tail ro_refl) | exact ro_app ro_refl | exact ro_tail (ro_app ro_refl)) (Val.load 0 rfl ag23 rfl rfl) ?_
        | refine TA.take 5 rfl rfl rfl (Nat.le_of_ble_eq_true rfl) (by kernel_rfl) (by kernel_rfl) (by kernel_rfl) (listed' := #[true, true, true, false, true, true, false, false, false, false]) (by kernel_rfl) (by first | exact ro_refl | exact ro_tail ro_refl | exact ro_tail (ro_tail ro_refl) | exact ro_app ro_refl | exact ro_tail (ro_app ro_refl)) (Val.load 1 rfl ag23 rfl rfl) ?_
        | refine TA.take 5 rfl rfl rfl (Nat.le_of_ble_eq_true rfl) (by kernel_rfl) (by kernel_rfl) (by kernel_rfl) (listed' := #[true, true, true, false, true, true, false, false, false, false]) (by kernel_rfl) (by first | exact ro_refl | exact ro_tail ro_refl | exact ro_tail (ro_tail ro_refl) | exact ro_app ro_refl | exact ro_tail (ro_app ro_refl)) (Val.load 2 rfl ag23 rfl rfl) ?_
        | refine TA.take 5 rfl rfl rfl (Nat.le_of_ble_eq_true rfl) (by kernel_rfl) (by kernel_rfl) (by kernel_rfl) (listed' := #[true, true, true, false, true, true, false, false, false, false]) (by kernel_rfl) (by first | exact ro_refl | exact ro_tail ro_refl | exact ro_tail (ro_tail ro_refl) | exact ro_app ro_refl | exact ro_tail (ro_app ro_refl)) (Val.load 3 rfl ag23 rfl rfl) ?_
        | refine TA.take 5 rfl rfl rfl (Nat.le_of_ble_eq_true rfl) (by kernel_rfl) (by kernel_rfl) (by kernel_rfl) (listed' := #[true, true, true, false, true, true, false, false, false, false]) (by kernel_rfl) (by first | exact ro_refl | exact ro_tail ro_refl | exact ro_tail (ro_tail ro_refl) | exact ro_app ro_refl | exact ro_tail (ro_app ro_refl)) (Val.load 4 rfl ag23 rfl rfl) ?_
        | refine TA.take 5 rfl rfl rfl (Nat.le_of_ble_eq_true rfl) (by kernel_rfl) (by kernel_rfl) (by kernel_rfl) (listed' := #[true, true, true, false, true, true, false, false, false, false]) (by kernel_rfl) (by first | exact ro_refl | exact ro_tail ro_refl | exact ro_tail (ro_tail ro_refl) | exact ro_app ro_refl | exact ro_tail (ro_app ro_refl)) (Val.load 5 rfl ag23 rfl rfl) ?_
      refine TA.take 6 rfl rfl rfl (Nat.le_of_ble_eq_true rfl) (by kernel_rfl) (by kernel_rfl) (by kernel_rfl) (listed' := #[true, true, true, false, true, true, true, false, false, false]) (by kernel_rfl) (by first | exact ro_refl | exact ro_tail ro_refl | exact ro_tail (ro_tail ro_refl) | exact ro_app ro_refl | exact ro_tail (ro_app ro_refl)) (Val.lenSl rfl rfl sl23) ?_
      refine TA.take 7 rfl rfl rfl (Nat.le_of_ble_eq_true rfl) (by kernel_rfl) (by kernel_rfl) (by kernel_rfl) (listed' := #[true, true, true, false, true, true, true, true, false, false]) (by kernel_rfl) (by first | exact ro_refl | exact ro_tail ro_refl | exact ro_tail (ro_tail ro_refl) | exact ro_app ro_refl | exact ro_tail (ro_app ro_refl)) (Val.sub rfl rfl (r := ((48 - d.length : Nat) : Int)) (by rw [w_i64 (by omega) (by omega)]; omega)) ?_
      refine TA.one 3 (by kernel_rfl) ?_
      refine TO.does (listed' := #[true, true, true, true, true, true, true, true, false, false]) (some 32) rfl rfl rfl rfl (by kernel_rfl) (Does.appendS (xs := bv ((put8 p).take 4) ++ bv [b8 pl, b8 (pl / 256), b8 kd, b8 d.length]) (ys := bv d) σ3 ((b1, _) :: M) ro_refl rfl rfl sl23 sz5 by5 ze5 rfl hok3 (srcB us23 ((hA.cons _).app _)) (by simp) (bv_one _) (by omega) (by omega)) ?_
      rintro _ _ ⟨σa, rfl, hoka, rfl⟩
      refine ⟨(by first | exact ro_refl | exact ro_tail ro_refl | exact ro_tail (ro_tail ro_refl) | exact ro_app ro_refl | exact ro_tail (ro_app ro_refl)), ?_⟩
      refine TA.one 8 (by kernel_rfl) ?_
      refine TO.does (listed' := #[true, true, true, true, true, true, true, true, true, false]) (some 37) rfl rfl rfl rfl (by kernel_rfl) (Does.appendS (xs := bv ((put8 p).take 4) ++ bv [b8 pl, b8 (pl / 256), b8 kd, b8 d.length] ++ bv d) (ys := bv (List.replicate (48 - d.length) 0)) σa ((b1, _) :: M) ro_refl rfl rfl sl23 sz5 by5 ze5 rfl hoka (srcZ ui3 (by omega)) (by simp) (bv_one _) (by omega) (by omega)) ?_
      rintro _ _ ⟨σ4, rfl, hok4, rfl⟩
      have eb : bv ((put8 p).take 4) ++ bv [b8 pl, b8 (pl / 256), b8 kd, b8 d.length] ++ bv d ++ bv (List.replicate (48 - d.length) 0) = bv (bodyB p pl kd d) := by simp [bodyB, headB, bv]
      rw [eb] at hok4 ⊢
      have e56 : 4 + 4 + d.length + (48 - d.length) = 56 := by omega
      rw [e56] at hok4 ⊢
      refine ⟨(by first | exact ro_refl | exact ro_tail ro_refl | exact ro_tail (ro_tail ro_refl) | exact ro_app ro_refl | exact ro_tail (ro_app ro_refl)), ?_⟩
      refine TA.take 9 rfl rfl rfl (Nat.le_of_ble_eq_true rfl) (by kernel_rfl) (by kernel_rfl) (by kernel_rfl) (listed' := #[true, true, true, true, true, true, true, true, true, true]) (by kernel_rfl) (by first | exact ro_refl | exact ro_tail ro_refl | exact ro_tail (ro_tail ro_refl) | exact ro_app ro_refl | exact ro_tail (ro_app ro_refl)) (Val.assign rfl) ?_
      refine TA.done (by kernel_rfl) ?_
      refine AtX.then ?_
      refine TC.env (E' := [(1, _), (2, _), (3, _), (4, _)]) (Sub.cons rfl (Sub.cons rfl (Sub.cons rfl (Sub.cons rfl (Sub.nil _))))) ?_
      refine TC.seq ?_
      refine TC.region ?_
      refine TL.val rfl rfl (Nat.le_of_ble_eq_true rfl) (Val.move rfl) ?_
      refine TL.val rfl rfl (Nat.le_of_ble_eq_true rfl) (Val.move rfl) ?_
      refine TL.does (some 40) rfl rfl rfl (Does.callF go19 rfl (Sum_fn (bodyB p pl kd d) _ _ _ _ (slRd hok4 (fun x h => List.mem_append_left _ h)) (by rw [bodyB_len _ _ _ _ hd]) (by rw [bodyB_len _ _ _ _ hd]; omega))) ?_
      rintro _ _ ⟨rfl, rfl⟩
      have hS : sum18 (bodyB p pl kd d) ≤ 256000000 := sumTo_bd _ _ (by rw [bodyB_len _ _ _ _ hd]; omega)
      refine TL.val rfl rfl (Nat.le_of_ble_eq_true rfl) (Val.convI rfl iu22 in55 (w_u64 (by omega) (by omega))) ?_
      refine TL.does (some 42) rfl rfl rfl (Does.callF go22 rfl (sipPut_fn _ _)) ?_
      rintro _ _ ⟨b5, c5, sp5, rfl, hc5, rfl⟩
      refine TL.val rfl rfl (Nat.le_of_ble_eq_true rfl) (Val.sliceTo (j := 4) rfl sl23 sz5 rfl rfl (by first | decide | omega)) ?_
      refine TL.does (some 44) rfl rfl rfl (Does.appendS (xs := bv (bodyB p pl kd d)) (ys := bv ((put8 (sum18 (bodyB p pl kd d) : Nat)).take 4)) σ4 ((b1, _) :: M) (ro_tail ro_refl) rfl rfl sl23 sz5 by5 ze5 rfl hok4 (srcB us23 (rd_rowB (i := 0) rfl 4 (by simp))) (by simp) (bv_one _) (by omega) (by omega)) ?_
      rintro _ _ ⟨σ5, rfl, hok5, rfl⟩
      refine TL.val rfl rfl (Nat.le_of_ble_eq_true rfl) (Val.assign rfl) ?_
      refine TL.nil ?_
      refine AtX.then ?_
      refine TC.env (E' := [(1, _), (2, _), (3, _), (4, _)]) (Sub.cons rfl (Sub.cons rfl (Sub.cons rfl (Sub.cons rfl (Sub.nil _))))) ?_
      refine TC.seq ?_
      refine TC.region ?_
      refine TL.val rfl rfl (Nat.le_of_ble_eq_true rfl) (Val.move rfl) ?_
      refine TL.val rfl rfl (Nat.le_of_ble_eq_true rfl) (Val.move rfl) ?_
      refine TL.val rfl rfl (Nat.le_of_ble_eq_true rfl) (Val.lenSl rfl rfl sl23) ?_
      refine TL.val rfl rfl (Nat.le_of_ble_eq_true rfl) (Val.sub rfl rfl (r := ((3 : Nat) : Int)) (by rw [w_i64 (by omega) (by omega)]; omega)) ?_
      refine TL.does (some 49) rfl rfl rfl (Does.appendS (ys := bv (List.replicate 3 0)) σ5 ((b1, _) :: M) ro_refl rfl rfl sl23 sz5 by5 ze5 rfl hok5 (srcZ ui3 (by omega)) (by simp) (bv_one _) (by omega) (by omega)) ?_
      rintro _ _ ⟨σ6, rfl, hok6, rfl⟩
      refine TL.val rfl rfl (Nat.le_of_ble_eq_true rfl) (Val.assign rfl) ?_
      refine TL.nil ?_
      refine AtX.then ?_
      refine TC.env (E' := [(1, _), (2, _), (3, _), (4, _)]) (Sub.cons rfl (Sub.cons rfl (Sub.cons rfl (Sub.cons rfl (Sub.nil _))))) ?_
      refine TC.seq ?_
      obtain ⟨b6, c6, sp6, rfl, hc6⟩ := hok6.some (by omega)
      refine TC.region ?_
      refine TL.val rfl rfl (Nat.le_of_ble_eq_true rfl) (Val.move rfl) ?_
      refine TL.val rfl rfl (Nat.le_of_ble_eq_true rfl) (Val.fieldAddr rfl fl31_0 sz22 rfl) ?_
      first
        | refine TL.val rfl rfl (Nat.le_of_ble_eq_true rfl) (Val.load 0 rfl ag22 rfl rfl) ?_
        | refine TL.val rfl rfl (Nat.le_of_ble_eq_true rfl) (Val.load 1 rfl ag22 rfl rfl) ?_
        | refine TL.val rfl rfl (Nat.le_of_ble_eq_true rfl) (Val.load 2 rfl ag22 rfl rfl) ?_
        | refine TL.val rfl rfl (Nat.le_of_ble_eq_true rfl) (Val.load 3 rfl ag22 rfl rfl) ?_
        | refine TL.val rfl rfl (Nat.le_of_ble_eq_true rfl) (Val.load 4 rfl ag22 rfl rfl) ?_
        | refine TL.val rfl rfl (Nat.le_of_ble_eq_true rfl) (Val.load 5 rfl ag22 rfl rfl) ?_
      refine TL.does (some 53) rfl rfl rfl (Does.callF go17 rfl (Mark_fn _ _)) ?_
      rintro _ _ ⟨rfl, rfl⟩
      refine TL.does (some 54) rfl rfl rfl (Does.buildSlice sl23 sz5 ze5 (by decide) (by decide) rfl rfl rfl) ?_
      rintro _ _ ⟨b14, rfl, rfl⟩
      refine TL.does (some 55) rfl rfl rfl (Does.appendS (ys := bv [markB p]) (some (b6, c6, sp6)) ((b1, _) :: M) (ro_tail ro_refl) rfl rfl sl23 sz5 by5 ze5 rfl hok6 (.inl ⟨_, _, rfl, ⟨5, us23⟩, .some (Rd.get (i := 0) rfl rfl)⟩) rfl (bv_one _) (by omega) (by omega)) ?_
      rintro _ _ ⟨σ7, rfl, hok7, rfl⟩
      refine TL.val rfl rfl (Nat.le_of_ble_eq_true rfl) (Val.assign rfl) ?_
      refine TL.val rfl rfl (Nat.le_of_ble_eq_true rfl) (Val.assign rfl) ?_
      refine TL.nil ?_
      obtain ⟨b7, c7, sp7, rfl, hc7⟩ := hok7.some (by omega)
      refine AtX.then ?_
      refine TC.env (E' := [(2, _), (3, _)]) (Sub.cons rfl (Sub.cons rfl (Sub.nil _))) ?_
      refine TC.ret2 (fn := Try.f10) (fun _ _ h => h) rfl (RV.tmp rfl) (RV.tmp rfl) (M' := (b7, row 5 (bv (cellB p pl kd d) ++ sp7)) :: M) (fun w h => by have h := ro_del 1 rfl w h; simpa [slH, cellB, bv] using h) ?_
      exact ⟨b7, c7, sp7, by simp [slA, slC], by have := hok7.1; simp at this; simp at hc7; omega, rfl⟩

/-- quorumite/log.Put -/
theorem Put_no (p pl kd : Int) (A : Option Addr) (n c : Nat) (M : Hp) (hm : mayC p pl kd n = false) : FnC Try.prog 10 #[.agg #[.int .u32 p, .int .i64 pl, .int .i64 kd, .slice A n c]] M (fun v M' => v = .tuple #[.slice none 0 0, .int .i64 1] ∧ M = M') := by
  refine FnC.intro Try.func10 rfl 56 rfl (by simp) (fun z => ?_)
  refine TC.env (E' := [(0, _)]) (Sub.cons rfl (Sub.nil _)) ?_
  refine TC.seq ?_
  refine TC.region ?_
  refine TL.does (some 1) rfl rfl rfl (Does.box rfl rfl) ?_
  rintro _ _ ⟨b1, rfl, rfl⟩
  refine TL.val rfl rfl (Nat.le_of_ble_eq_true rfl) (Val.assign rfl) ?_
  refine TL.val rfl rfl (Nat.le_of_ble_eq_true rfl) (Val.assign rfl) ?_
  refine TL.nil ?_
  refine AtX.then ?_
  refine TC.env (E' := [(1, _), (2, _), (3, _)]) (Sub.cons rfl (Sub.cons rfl (Sub.cons rfl (Sub.nil _)))) ?_
  refine TC.seq ?_
  refine TC.seq ?_
  refine TC.region ?_
  first
    | refine TL.val rfl rfl (Nat.le_of_ble_eq_true rfl) (Val.loadAgg 0 rfl ag31 sz31 rfl rfl rfl) ?_
    | refine TL.val rfl rfl (Nat.le_of_ble_eq_true rfl) (Val.loadAgg 1 rfl ag31 sz31 rfl rfl rfl) ?_
    | refine TL.val rfl rfl (Nat.le_of_ble_eq_true rfl) (Val.loadAgg 2 rfl ag31 sz31 rfl rfl rfl) ?_
    | refine TL.val rfl rfl (Nat.le_of_ble_eq_true rfl) (Val.loadAgg 3 rfl ag31 sz31 rfl rfl rfl) ?_
    | refine TL.val rfl rfl (Nat.le_of_ble_eq_true rfl) (Val.loadAgg 4 rfl ag31 sz31 rfl rfl rfl) ?_
    | refine TL.val rfl rfl (Nat.le_of_ble_eq_true rfl) (Val.loadAgg 5 rfl ag31 sz31 rfl rfl rfl) ?_
  refine TL.does (some 6) rfl rfl rfl (Does.callF go14 rfl (May_fn _ _ _ _ _ _ _)) ?_
  rintro _ _ ⟨rfl, rfl⟩
  refine TL.val rfl rfl (Nat.le_of_ble_eq_true rfl) (Val.not rfl) ?_
  refine TL.nil ?_
  refine AtX.then ?_
  refine TC.env (E' := [(1, _), (2, _), (3, _), (7, _)]) (Sub.cons rfl (Sub.cons rfl (Sub.cons rfl (Sub.cons rfl (Sub.nil _))))) ?_
  first | refine TC.condP rfl (fun c1 => ?_) (fun c1 => ?_) | refine TC.condN rfl (fun c1 => ?_) (fun c1 => ?_) | refine TC.condB rfl (fun c1 => ?_) (fun c1 => ?_) | refine TC.cond rfl (fun c1 => ?_) (fun c1 => ?_)
  · skip
    refine TC.env (E' := [(1, _), (2, _), (3, _)]) (Sub.cons rfl (Sub.cons rfl (Sub.cons rfl (Sub.nil _)))) ?_
    refine TC.seq ?_
    refine TC.region ?_
    refine TL.val rfl rfl (Nat.le_of_ble_eq_true rfl) (Val.assign rfl) ?_
    refine TL.val rfl rfl (Nat.le_of_ble_eq_true rfl) (Val.assign rfl) ?_
    refine TL.nil ?_
    refine AtX.then ?_
    refine TC.env (E' := [(1, _), (2, _), (3, _)]) (Sub.cons rfl (Sub.cons rfl (Sub.cons rfl (Sub.nil _)))) ?_
    refine TC.ret2 (fn := Try.f10) (fun _ _ h => h) rfl (RV.tmp rfl) (RV.tmp rfl) (ro_tail ro_refl) ?_
    exact ⟨rfl, rfl⟩
  · skip
    rw [hm] at c1; cases c1

end Go.Proofs.Ytbjjjapdioegpaa
