/- walks -/
import Derived.Test.YtbjjjapdioegpaaH1
set_option linter.unusedVariables false
set_option linter.unusedSimpArgs false
set_option maxRecDepth 100000
set_option maxHeartbeats 4000000
namespace Go.Proofs.Ytbjjjapdioegpaa
open Go Go.X
/-- quorumite/quorumitelaw18.LogCells -/
theorem LogCells_fn (p pl kd : Int) (l : List UInt8) (A : Option Addr) (n c : Nat) (p2 pl2 kd2 : Int) (l2 : List UInt8) (A2 : Option Addr) (n2 cap2 : Nat) (M : Hp) (hp : 0 ≤ p ∧ p ≤ 4294967295) (hpl : -9223372036854775808 ≤ pl ∧ pl ≤ 9223372036854775807) (hkd : -9223372036854775808 ≤ kd ∧ kd ≤ 9223372036854775807) (hA : RdS M A (bv l)) (hn : n = l.length) (hc : n ≤ c) (hp2 : 0 ≤ p2 ∧ p2 ≤ 4294967295) (hpl2 : -9223372036854775808 ≤ pl2 ∧ pl2 ≤ 9223372036854775807) (hkd2 : -9223372036854775808 ≤ kd2 ∧ kd2 ≤ 9223372036854775807) (hA2 : RdS M A2 (bv l2)) (hn2 : n2 = l2.length) (hc2 : n2 ≤ cap2)  : FnC Try.prog 7 #[.agg #[.int .u32 p, .int .i64 pl, .int .i64 kd, .slice A n c], .agg #[.int .u32 p2, .int .i64 pl2, .int .i64 kd2, .slice A2 n2 cap2]] M (fun v M' => v = .bool true ∧ M = M') := by
  refine FnC.intro Try.func7 rfl 72 rfl (by simp) (fun z => ?_)
  refine TC.env (E' := [(0, _), (1, _)]) (Sub.cons rfl (Sub.cons rfl (Sub.nil _))) ?_
  refine TC.seq ?_
  refine TC.region ?_
  refine TL.does (some 2) rfl rfl rfl (Does.box rfl rfl) ?_
  rintro _ _ ⟨b1, rfl, rfl⟩
  refine TL.does (some 3) rfl rfl rfl (Does.box rfl rfl) ?_
  rintro _ _ ⟨b2, rfl, rfl⟩
  refine TL.val rfl rfl (Nat.le_of_ble_eq_true rfl) (Val.assign rfl) ?_
  refine TL.nil ?_
  refine AtX.then ?_
  refine TC.env (E' := [(2, _), (3, _), (4, _)]) (Sub.cons rfl (Sub.cons rfl (Sub.cons rfl (Sub.nil _)))) ?_
  refine TC.join (ι := (Nat × Nat × (Int × Int × Int × Nat) × (Int × Int × Int × Nat))) (fun i => [(5, .pointer (some ⟨i.1, 0, none⟩)), (6, .pointer (some ⟨i.2.1, 0, none⟩))]) (fun i => (i.1, .cells #[.int .u32 i.2.2.1.1, .int .i64 i.2.2.1.2.1, .int .i64 i.2.2.1.2.2.1, .slice A i.2.2.1.2.2.2 c] 25 (0, 0)) :: (i.2.1, .cells #[.int .u32 i.2.2.2.1, .int .i64 i.2.2.2.2.1, .int .i64 i.2.2.2.2.2.1, .slice A2 i.2.2.2.2.2.2 cap2] 25 (0, 0)) :: M) (fun i => (mayC i.2.2.1.1 i.2.2.1.2.1 i.2.2.1.2.2.1 i.2.2.1.2.2.2 = true ∧ i.2.2.1.2.2.2 ≤ n) ∧ (mayC i.2.2.2.1 i.2.2.2.2.1 i.2.2.2.2.2.1 i.2.2.2.2.2.2 = true ∧ i.2.2.2.2.2.2 ≤ n2)) ?_ ?_
  · skip
    refine TC.draw ((b2, .cells #[.int .u32 p2, .int .i64 pl2, .int .i64 kd2, .slice A2 n2 cap2] 25 (0, 0)) :: (b1, .cells #[.int .u32 p, .int .i64 pl, .int .i64 kd, .slice A n c] 25 (0, 0)) :: M) mixed ?_
    first
      | refine TA.take 0 rfl rfl rfl (Nat.le_of_ble_eq_true rfl) (by kernel_rfl) (by kernel_rfl) (by kernel_rfl) (listed' := #[true, false, false, false, false, false, false, false]) (by kernel_rfl) (by repeat (first | exact ro_refl | exact ro_pre | refine ro_tail ?_ | refine ro_app ?_)) (Val.loadAgg 0 rfl ag25 sz25 rfl rfl rfl) ?_
      | refine TA.take 0 rfl rfl rfl (Nat.le_of_ble_eq_true rfl) (by kernel_rfl) (by kernel_rfl) (by kernel_rfl) (listed' := #[true, false, false, false, false, false, false, false]) (by kernel_rfl) (by repeat (first | exact ro_refl | exact ro_pre | refine ro_tail ?_ | refine ro_app ?_)) (Val.loadAgg 1 rfl ag25 sz25 rfl rfl rfl) ?_
      | refine TA.take 0 rfl rfl rfl (Nat.le_of_ble_eq_true rfl) (by kernel_rfl) (by kernel_rfl) (by kernel_rfl) (listed' := #[true, false, false, false, false, false, false, false]) (by kernel_rfl) (by repeat (first | exact ro_refl | exact ro_pre | refine ro_tail ?_ | refine ro_app ?_)) (Val.loadAgg 2 rfl ag25 sz25 rfl rfl rfl) ?_
      | refine TA.take 0 rfl rfl rfl (Nat.le_of_ble_eq_true rfl) (by kernel_rfl) (by kernel_rfl) (by kernel_rfl) (listed' := #[true, false, false, false, false, false, false, false]) (by kernel_rfl) (by repeat (first | exact ro_refl | exact ro_pre | refine ro_tail ?_ | refine ro_app ?_)) (Val.loadAgg 3 rfl ag25 sz25 rfl rfl rfl) ?_
      | refine TA.take 0 rfl rfl rfl (Nat.le_of_ble_eq_true rfl) (by kernel_rfl) (by kernel_rfl) (by kernel_rfl) (listed' := #[true, false, false, false, false, false, false, false]) (by kernel_rfl) (by repeat (first | exact ro_refl | exact ro_pre | refine ro_tail ?_ | refine ro_app ?_)) (Val.loadAgg 4 rfl ag25 sz25 rfl rfl rfl) ?_
      | refine TA.take 0 rfl rfl rfl (Nat.le_of_ble_eq_true rfl) (by kernel_rfl) (by kernel_rfl) (by kernel_rfl) (listed' := #[true, false, false, false, false, false, false, false]) (by kernel_rfl) (by repeat (first | exact ro_refl | exact ro_pre | refine ro_tail ?_ | refine ro_app ?_)) (Val.loadAgg 5 rfl ag25 sz25 rfl rfl rfl) ?_
    first
      | refine TA.take 2 rfl rfl rfl (Nat.le_of_ble_eq_true rfl) (by kernel_rfl) (by kernel_rfl) (by kernel_rfl) (listed' := #[true, false, true, false, false, false, false, false]) (by kernel_rfl) (by repeat (first | exact ro_refl | exact ro_pre | refine ro_tail ?_ | refine ro_app ?_)) (Val.loadAgg 0 rfl ag25 sz25 rfl rfl rfl) ?_
      | refine TA.take 2 rfl rfl rfl (Nat.le_of_ble_eq_true rfl) (by kernel_rfl) (by kernel_rfl) (by kernel_rfl) (listed' := #[true, false, true, false, false, false, false, false]) (by kernel_rfl) (by repeat (first | exact ro_refl | exact ro_pre | refine ro_tail ?_ | refine ro_app ?_)) (Val.loadAgg 1 rfl ag25 sz25 rfl rfl rfl) ?_
      | refine TA.take 2 rfl rfl rfl (Nat.le_of_ble_eq_true rfl) (by kernel_rfl) (by kernel_rfl) (by kernel_rfl) (listed' := #[true, false, true, false, false, false, false, false]) (by kernel_rfl) (by repeat (first | exact ro_refl | exact ro_pre | refine ro_tail ?_ | refine ro_app ?_)) (Val.loadAgg 2 rfl ag25 sz25 rfl rfl rfl) ?_
      | refine TA.take 2 rfl rfl rfl (Nat.le_of_ble_eq_true rfl) (by kernel_rfl) (by kernel_rfl) (by kernel_rfl) (listed' := #[true, false, true, false, false, false, false, false]) (by kernel_rfl) (by repeat (first | exact ro_refl | exact ro_pre | refine ro_tail ?_ | refine ro_app ?_)) (Val.loadAgg 3 rfl ag25 sz25 rfl rfl rfl) ?_
      | refine TA.take 2 rfl rfl rfl (Nat.le_of_ble_eq_true rfl) (by kernel_rfl) (by kernel_rfl) (by kernel_rfl) (listed' := #[true, false, true, false, false, false, false, false]) (by kernel_rfl) (by repeat (first | exact ro_refl | exact ro_pre | refine ro_tail ?_ | refine ro_app ?_)) (Val.loadAgg 4 rfl ag25 sz25 rfl rfl rfl) ?_
      | refine TA.take 2 rfl rfl rfl (Nat.le_of_ble_eq_true rfl) (by kernel_rfl) (by kernel_rfl) (by kernel_rfl) (listed' := #[true, false, true, false, false, false, false, false]) (by kernel_rfl) (by repeat (first | exact ro_refl | exact ro_pre | refine ro_tail ?_ | refine ro_app ?_)) (Val.loadAgg 5 rfl ag25 sz25 rfl rfl rfl) ?_
    refine TA.three 1 4 5 (by kernel_rfl) ?_ ?_ ?_
    · skip
      refine TO.does (listed' := #[true, true, true, false, false, false, false, false]) (some 13) rfl rfl rfl rfl (by kernel_rfl) (Does.callF go21 rfl (fit_fn p pl kd A n c _ hp hpl hkd hc)) ?_
      rintro _ _ ⟨fp, fl, fk, fn, rfl, hf, hfn, rfl⟩
      refine ⟨(by repeat (first | exact ro_refl | exact ro_pre | refine ro_tail ?_ | refine ro_app ?_)), ?_⟩
      refine TA.three 3 4 5 (by kernel_rfl) ?_ ?_ ?_
      · skip
        refine TO.does (listed' := #[true, true, true, true, false, false, false, false]) (some 15) rfl rfl rfl rfl (by kernel_rfl) (Does.callF go21 rfl (fit_fn p2 pl2 kd2 A2 n2 cap2 _ hp2 hpl2 hkd2 hc2)) ?_
        rintro _ _ ⟨gp, gl, gk, gn, rfl, hg, hgn, rfl⟩
        refine ⟨(by repeat (first | exact ro_refl | exact ro_pre | refine ro_tail ?_ | refine ro_app ?_)), ?_⟩
        refine TA.two 4 5 (by kernel_rfl) ?_ ?_
        · skip
          refine TO.does (listed' := #[true, true, true, true, true, false, false, false]) (some 5) rfl rfl rfl rfl (by kernel_rfl) (Does.alloc ze25 rfl) ?_
          rintro _ _ ⟨ba, rfl, rfl⟩
          refine ⟨(by repeat (first | exact ro_refl | exact ro_pre | refine ro_tail ?_ | refine ro_app ?_)), ?_⟩
          refine TA.one 5 (by kernel_rfl) ?_
          refine TO.does (listed' := #[true, true, true, true, true, true, false, false]) (some 6) rfl rfl rfl rfl (by kernel_rfl) (Does.alloc ze25 rfl) ?_
          rintro _ _ ⟨bb, rfl, rfl⟩
          refine ⟨(by repeat (first | exact ro_refl | exact ro_pre | refine ro_tail ?_ | refine ro_app ?_)), ?_⟩
          refine TA.one 6 (by kernel_rfl) ?_
          first
            | refine TO.does (listed' := #[true, true, true, true, true, true, true, false]) none rfl rfl rfl rfl (by kernel_rfl) (Does.store (i := 0) rfl rfl rfl sz25 rfl rfl (by first | decide | omega) rfl rfl) ?_
            | refine TO.does (listed' := #[true, true, true, true, true, true, true, false]) none rfl rfl rfl rfl (by kernel_rfl) (Does.store (i := 1) rfl rfl rfl sz25 rfl rfl (by first | decide | omega) rfl rfl) ?_
            | refine TO.does (listed' := #[true, true, true, true, true, true, true, false]) none rfl rfl rfl rfl (by kernel_rfl) (Does.store (i := 2) rfl rfl rfl sz25 rfl rfl (by first | decide | omega) rfl rfl) ?_
            | refine TO.does (listed' := #[true, true, true, true, true, true, true, false]) none rfl rfl rfl rfl (by kernel_rfl) (Does.store (i := 3) rfl rfl rfl sz25 rfl rfl (by first | decide | omega) rfl rfl) ?_
            | refine TO.does (listed' := #[true, true, true, true, true, true, true, false]) none rfl rfl rfl rfl (by kernel_rfl) (Does.store (i := 4) rfl rfl rfl sz25 rfl rfl (by first | decide | omega) rfl rfl) ?_
            | refine TO.does (listed' := #[true, true, true, true, true, true, true, false]) none rfl rfl rfl rfl (by kernel_rfl) (Does.store (i := 5) rfl rfl rfl sz25 rfl rfl (by first | decide | omega) rfl rfl) ?_
          rintro _ _ ⟨rfl, rfl⟩
          refine ⟨(by repeat (first | exact ro_refl | exact ro_pre | refine ro_tail ?_ | refine ro_app ?_)), ?_⟩
          refine TA.one 7 (by kernel_rfl) ?_
          first
            | refine TO.does (listed' := #[true, true, true, true, true, true, true, true]) none rfl rfl rfl rfl (by kernel_rfl) (Does.store (i := 0) rfl rfl rfl sz25 rfl rfl (by first | decide | omega) rfl rfl) ?_
            | refine TO.does (listed' := #[true, true, true, true, true, true, true, true]) none rfl rfl rfl rfl (by kernel_rfl) (Does.store (i := 1) rfl rfl rfl sz25 rfl rfl (by first | decide | omega) rfl rfl) ?_
            | refine TO.does (listed' := #[true, true, true, true, true, true, true, true]) none rfl rfl rfl rfl (by kernel_rfl) (Does.store (i := 2) rfl rfl rfl sz25 rfl rfl (by first | decide | omega) rfl rfl) ?_
            | refine TO.does (listed' := #[true, true, true, true, true, true, true, true]) none rfl rfl rfl rfl (by kernel_rfl) (Does.store (i := 3) rfl rfl rfl sz25 rfl rfl (by first | decide | omega) rfl rfl) ?_
            | refine TO.does (listed' := #[true, true, true, true, true, true, true, true]) none rfl rfl rfl rfl (by kernel_rfl) (Does.store (i := 4) rfl rfl rfl sz25 rfl rfl (by first | decide | omega) rfl rfl) ?_
            | refine TO.does (listed' := #[true, true, true, true, true, true, true, true]) none rfl rfl rfl rfl (by kernel_rfl) (Does.store (i := 5) rfl rfl rfl sz25 rfl rfl (by first | decide | omega) rfl rfl) ?_
          rintro _ _ ⟨rfl, rfl⟩
          refine ⟨(by repeat (first | exact ro_refl | exact ro_pre | refine ro_tail ?_ | refine ro_app ?_)), ?_⟩
          refine TA.done (by kernel_rfl) ?_
          refine AtX.join (ba, bb, (fp, fl, fk, fn), (gp, gl, gk, gn)) ?_ (Sub.cons rfl (Sub.cons rfl (Sub.nil _))) (fun w h => by first | exact own_two w h | exact own_two' w h)
          exact ⟨⟨hf, hfn⟩, ⟨hg, hgn⟩⟩
        · skip
          refine TO.does (listed' := #[true, true, true, true, false, true, false, false]) (some 6) rfl rfl rfl rfl (by kernel_rfl) (Does.alloc ze25 rfl) ?_
          rintro _ _ ⟨bb, rfl, rfl⟩
          refine ⟨(by repeat (first | exact ro_refl | exact ro_pre | refine ro_tail ?_ | refine ro_app ?_)), ?_⟩
          refine TA.one 4 (by kernel_rfl) ?_
          refine TO.does (listed' := #[true, true, true, true, true, true, false, false]) (some 5) rfl rfl rfl rfl (by kernel_rfl) (Does.alloc ze25 rfl) ?_
          rintro _ _ ⟨ba, rfl, rfl⟩
          refine ⟨(by repeat (first | exact ro_refl | exact ro_pre | refine ro_tail ?_ | refine ro_app ?_)), ?_⟩
          refine TA.one 6 (by kernel_rfl) ?_
          first
            | refine TO.does (listed' := #[true, true, true, true, true, true, true, false]) none rfl rfl rfl rfl (by kernel_rfl) (Does.store (i := 0) rfl rfl rfl sz25 rfl rfl (by first | decide | omega) rfl rfl) ?_
            | refine TO.does (listed' := #[true, true, true, true, true, true, true, false]) none rfl rfl rfl rfl (by kernel_rfl) (Does.store (i := 1) rfl rfl rfl sz25 rfl rfl (by first | decide | omega) rfl rfl) ?_
            | refine TO.does (listed' := #[true, true, true, true, true, true, true, false]) none rfl rfl rfl rfl (by kernel_rfl) (Does.store (i := 2) rfl rfl rfl sz25 rfl rfl (by first | decide | omega) rfl rfl) ?_
            | refine TO.does (listed' := #[true, true, true, true, true, true, true, false]) none rfl rfl rfl rfl (by kernel_rfl) (Does.store (i := 3) rfl rfl rfl sz25 rfl rfl (by first | decide | omega) rfl rfl) ?_
            | refine TO.does (listed' := #[true, true, true, true, true, true, true, false]) none rfl rfl rfl rfl (by kernel_rfl) (Does.store (i := 4) rfl rfl rfl sz25 rfl rfl (by first | decide | omega) rfl rfl) ?_
            | refine TO.does (listed' := #[true, true, true, true, true, true, true, false]) none rfl rfl rfl rfl (by kernel_rfl) (Does.store (i := 5) rfl rfl rfl sz25 rfl rfl (by first | decide | omega) rfl rfl) ?_
          rintro _ _ ⟨rfl, rfl⟩
          refine ⟨(by repeat (first | exact ro_refl | exact ro_pre | refine ro_tail ?_ | refine ro_app ?_)), ?_⟩
          refine TA.one 7 (by kernel_rfl) ?_
          first
            | refine TO.does (listed' := #[true, true, true, true, true, true, true, true]) none rfl rfl rfl rfl (by kernel_rfl) (Does.store (i := 0) rfl rfl rfl sz25 rfl rfl (by first | decide | omega) rfl rfl) ?_
            | refine TO.does (listed' := #[true, true, true, true, true, true, true, true]) none rfl rfl rfl rfl (by kernel_rfl) (Does.store (i := 1) rfl rfl rfl sz25 rfl rfl (by first | decide | omega) rfl rfl) ?_
            | refine TO.does (listed' := #[true, true, true, true, true, true, true, true]) none rfl rfl rfl rfl (by kernel_rfl) (Does.store (i := 2) rfl rfl rfl sz25 rfl rfl (by first | decide | omega) rfl rfl) ?_
            | refine TO.does (listed' := #[true, true, true, true, true, true, true, true]) none rfl rfl rfl rfl (by kernel_rfl) (Does.store (i := 3) rfl rfl rfl sz25 rfl rfl (by first | decide | omega) rfl rfl) ?_
            | refine TO.does (listed' := #[true, true, true, true, true, true, true, true]) none rfl rfl rfl rfl (by kernel_rfl) (Does.store (i := 4) rfl rfl rfl sz25 rfl rfl (by first | decide | omega) rfl rfl) ?_
            | refine TO.does (listed' := #[true, true, true, true, true, true, true, true]) none rfl rfl rfl rfl (by kernel_rfl) (Does.store (i := 5) rfl rfl rfl sz25 rfl rfl (by first | decide | omega) rfl rfl) ?_
          rintro _ _ ⟨rfl, rfl⟩
          refine ⟨(by repeat (first | exact ro_refl | exact ro_pre | refine ro_tail ?_ | refine ro_app ?_)), ?_⟩
          refine TA.done (by kernel_rfl) ?_
          refine AtX.join (ba, bb, (fp, fl, fk, fn), (gp, gl, gk, gn)) ?_ (Sub.cons rfl (Sub.cons rfl (Sub.nil _))) (fun w h => by first | exact own_two w h | exact own_two' w h)
          exact ⟨⟨hf, hfn⟩, ⟨hg, hgn⟩⟩
      · skip
        refine TO.does (listed' := #[true, true, true, false, true, false, false, false]) (some 5) rfl rfl rfl rfl (by kernel_rfl) (Does.alloc ze25 rfl) ?_
        rintro _ _ ⟨ba, rfl, rfl⟩
        refine ⟨(by repeat (first | exact ro_refl | exact ro_pre | refine ro_tail ?_ | refine ro_app ?_)), ?_⟩
        refine TA.two 3 5 (by kernel_rfl) ?_ ?_
        · skip
          refine TO.does (listed' := #[true, true, true, true, true, false, false, false]) (some 15) rfl rfl rfl rfl (by kernel_rfl) (Does.callF go21 rfl (fit_fn p2 pl2 kd2 A2 n2 cap2 _ hp2 hpl2 hkd2 hc2)) ?_
          rintro _ _ ⟨gp, gl, gk, gn, rfl, hg, hgn, rfl⟩
          refine ⟨(by repeat (first | exact ro_refl | exact ro_pre | refine ro_tail ?_ | refine ro_app ?_)), ?_⟩
          refine TA.one 5 (by kernel_rfl) ?_
          refine TO.does (listed' := #[true, true, true, true, true, true, false, false]) (some 6) rfl rfl rfl rfl (by kernel_rfl) (Does.alloc ze25 rfl) ?_
          rintro _ _ ⟨bb, rfl, rfl⟩
          refine ⟨(by repeat (first | exact ro_refl | exact ro_pre | refine ro_tail ?_ | refine ro_app ?_)), ?_⟩
          refine TA.one 6 (by kernel_rfl) ?_
          first
            | refine TO.does (listed' := #[true, true, true, true, true, true, true, false]) none rfl rfl rfl rfl (by kernel_rfl) (Does.store (i := 0) rfl rfl rfl sz25 rfl rfl (by first | decide | omega) rfl rfl) ?_
            | refine TO.does (listed' := #[true, true, true, true, true, true, true, false]) none rfl rfl rfl rfl (by kernel_rfl) (Does.store (i := 1) rfl rfl rfl sz25 rfl rfl (by first | decide | omega) rfl rfl) ?_
            | refine TO.does (listed' := #[true, true, true, true, true, true, true, false]) none rfl rfl rfl rfl (by kernel_rfl) (Does.store (i := 2) rfl rfl rfl sz25 rfl rfl (by first | decide | omega) rfl rfl) ?_
            | refine TO.does (listed' := #[true, true, true, true, true, true, true, false]) none rfl rfl rfl rfl (by kernel_rfl) (Does.store (i := 3) rfl rfl rfl sz25 rfl rfl (by first | decide | omega) rfl rfl) ?_
            | refine TO.does (listed' := #[true, true, true, true, true, true, true, false]) none rfl rfl rfl rfl (by kernel_rfl) (Does.store (i := 4) rfl rfl rfl sz25 rfl rfl (by first | decide | omega) rfl rfl) ?_
            | refine TO.does (listed' := #[true, true, true, true, true, true, true, false]) none rfl rfl rfl rfl (by kernel_rfl) (Does.store (i := 5) rfl rfl rfl sz25 rfl rfl (by first | decide | omega) rfl rfl) ?_
          rintro _ _ ⟨rfl, rfl⟩
          refine ⟨(by repeat (first | exact ro_refl | exact ro_pre | refine ro_tail ?_ | refine ro_app ?_)), ?_⟩
          refine TA.one 7 (by kernel_rfl) ?_
          first
            | refine TO.does (listed' := #[true, true, true, true, true, true, true, true]) none rfl rfl rfl rfl (by kernel_rfl) (Does.store (i := 0) rfl rfl rfl sz25 rfl rfl (by first | decide | omega) rfl rfl) ?_
            | refine TO.does (listed' := #[true, true, true, true, true, true, true, true]) none rfl rfl rfl rfl (by kernel_rfl) (Does.store (i := 1) rfl rfl rfl sz25 rfl rfl (by first | decide | omega) rfl rfl) ?_
            | refine TO.does (listed' := #[true, true, true, true, true, true, true, true]) none rfl rfl rfl rfl (by kernel_rfl) (Does.store (i := 2) rfl rfl rfl sz25 rfl rfl (by first | decide | omega) rfl rfl) ?_
            | refine TO.does (listed' := #[true, true, true, true, true, true, true, true]) none rfl rfl rfl rfl (by kernel_rfl) (Does.store (i := 3) rfl rfl rfl sz25 rfl rfl (by first | decide | omega) rfl rfl) ?_
            | refine TO.does (listed' := #[true, true, true, true, true, true, true, true]) none rfl rfl rfl rfl (by kernel_rfl) (Does.store (i := 4) rfl rfl rfl sz25 rfl rfl (by first | decide | omega) rfl rfl) ?_
            | refine TO.does (listed' := #[true, true, true, true, true, true, true, true]) none rfl rfl rfl rfl (by kernel_rfl) (Does.store (i := 5) rfl rfl rfl sz25 rfl rfl (by first | decide | omega) rfl rfl) ?_
          rintro _ _ ⟨rfl, rfl⟩
          refine ⟨(by repeat (first | exact ro_refl | exact ro_pre | refine ro_tail ?_ | refine ro_app ?_)), ?_⟩
          refine TA.done (by kernel_rfl) ?_
          refine AtX.join (ba, bb, (fp, fl, fk, fn), (gp, gl, gk, gn)) ?_ (Sub.cons rfl (Sub.cons rfl (Sub.nil _))) (fun w h => by first | exact own_two w h | exact own_two' w h)
          exact ⟨⟨hf, hfn⟩, ⟨hg, hgn⟩⟩
        · skip
          refine TO.does (listed' := #[true, true, true, false, true, true, false, false]) (some 6) rfl rfl rfl rfl (by kernel_rfl) (Does.alloc ze25 rfl) ?_
          rintro _ _ ⟨bb, rfl, rfl⟩
          refine ⟨(by repeat (first | exact ro_refl | exact ro_pre | refine ro_tail ?_ | refine ro_app ?_)), ?_⟩
          refine TA.one 3 (by kernel_rfl) ?_
          refine TO.does (listed' := #[true, true, true, true, true, true, false, false]) (some 15) rfl rfl rfl rfl (by kernel_rfl) (Does.callF go21 rfl (fit_fn p2 pl2 kd2 A2 n2 cap2 _ hp2 hpl2 hkd2 hc2)) ?_
          rintro _ _ ⟨gp, gl, gk, gn, rfl, hg, hgn, rfl⟩
          refine ⟨(by repeat (first | exact ro_refl | exact ro_pre | refine ro_tail ?_ | refine ro_app ?_)), ?_⟩
          refine TA.one 6 (by kernel_rfl) ?_
          first
            | refine TO.does (listed' := #[true, true, true, true, true, true, true, false]) none rfl rfl rfl rfl (by kernel_rfl) (Does.store (i := 0) rfl rfl rfl sz25 rfl rfl (by first | decide | omega) rfl rfl) ?_
            | refine TO.does (listed' := #[true, true, true, true, true, true, true, false]) none rfl rfl rfl rfl (by kernel_rfl) (Does.store (i := 1) rfl rfl rfl sz25 rfl rfl (by first | decide | omega) rfl rfl) ?_
            | refine TO.does (listed' := #[true, true, true, true, true, true, true, false]) none rfl rfl rfl rfl (by kernel_rfl) (Does.store (i := 2) rfl rfl rfl sz25 rfl rfl (by first | decide | omega) rfl rfl) ?_
            | refine TO.does (listed' := #[true, true, true, true, true, true, true, false]) none rfl rfl rfl rfl (by kernel_rfl) (Does.store (i := 3) rfl rfl rfl sz25 rfl rfl (by first | decide | omega) rfl rfl) ?_
            | refine TO.does (listed' := #[true, true, true, true, true, true, true, false]) none rfl rfl rfl rfl (by kernel_rfl) (Does.store (i := 4) rfl rfl rfl sz25 rfl rfl (by first | decide | omega) rfl rfl) ?_
            | refine TO.does (listed' := #[true, true, true, true, true, true, true, false]) none rfl rfl rfl rfl (by kernel_rfl) (Does.store (i := 5) rfl rfl rfl sz25 rfl rfl (by first | decide | omega) rfl rfl) ?_
          rintro _ _ ⟨rfl, rfl⟩
          refine ⟨(by repeat (first | exact ro_refl | exact ro_pre | refine ro_tail ?_ | refine ro_app ?_)), ?_⟩
          refine TA.one 7 (by kernel_rfl) ?_
          first
            | refine TO.does (listed' := #[true, true, true, true, true, true, true, true]) none rfl rfl rfl rfl (by kernel_rfl) (Does.store (i := 0) rfl rfl rfl sz25 rfl rfl (by first | decide | omega) rfl rfl) ?_
            | refine TO.does (listed' := #[true, true, true, true, true, true, true, true]) none rfl rfl rfl rfl (by kernel_rfl) (Does.store (i := 1) rfl rfl rfl sz25 rfl rfl (by first | decide | omega) rfl rfl) ?_
            | refine TO.does (listed' := #[true, true, true, true, true, true, true, true]) none rfl rfl rfl rfl (by kernel_rfl) (Does.store (i := 2) rfl rfl rfl sz25 rfl rfl (by first | decide | omega) rfl rfl) ?_
            | refine TO.does (listed' := #[true, true, true, true, true, true, true, true]) none rfl rfl rfl rfl (by kernel_rfl) (Does.store (i := 3) rfl rfl rfl sz25 rfl rfl (by first | decide | omega) rfl rfl) ?_
            | refine TO.does (listed' := #[true, true, true, true, true, true, true, true]) none rfl rfl rfl rfl (by kernel_rfl) (Does.store (i := 4) rfl rfl rfl sz25 rfl rfl (by first | decide | omega) rfl rfl) ?_
            | refine TO.does (listed' := #[true, true, true, true, true, true, true, true]) none rfl rfl rfl rfl (by kernel_rfl) (Does.store (i := 5) rfl rfl rfl sz25 rfl rfl (by first | decide | omega) rfl rfl) ?_
          rintro _ _ ⟨rfl, rfl⟩
          refine ⟨(by repeat (first | exact ro_refl | exact ro_pre | refine ro_tail ?_ | refine ro_app ?_)), ?_⟩
          refine TA.done (by kernel_rfl) ?_
          refine AtX.join (ba, bb, (fp, fl, fk, fn), (gp, gl, gk, gn)) ?_ (Sub.cons rfl (Sub.cons rfl (Sub.nil _))) (fun w h => by first | exact own_two w h | exact own_two' w h)
          exact ⟨⟨hf, hfn⟩, ⟨hg, hgn⟩⟩
      · skip
        refine TO.does (listed' := #[true, true, true, false, false, true, false, false]) (some 6) rfl rfl rfl rfl (by kernel_rfl) (Does.alloc ze25 rfl) ?_
        rintro _ _ ⟨bb, rfl, rfl⟩
        refine ⟨(by repeat (first | exact ro_refl | exact ro_pre | refine ro_tail ?_ | refine ro_app ?_)), ?_⟩
        refine TA.two 3 4 (by kernel_rfl) ?_ ?_
        · skip
          refine TO.does (listed' := #[true, true, true, true, false, true, false, false]) (some 15) rfl rfl rfl rfl (by kernel_rfl) (Does.callF go21 rfl (fit_fn p2 pl2 kd2 A2 n2 cap2 _ hp2 hpl2 hkd2 hc2)) ?_
          rintro _ _ ⟨gp, gl, gk, gn, rfl, hg, hgn, rfl⟩
          refine ⟨(by repeat (first | exact ro_refl | exact ro_pre | refine ro_tail ?_ | refine ro_app ?_)), ?_⟩
          refine TA.one 4 (by kernel_rfl) ?_
          refine TO.does (listed' := #[true, true, true, true, true, true, false, false]) (some 5) rfl rfl rfl rfl (by kernel_rfl) (Does.alloc ze25 rfl) ?_
          rintro _ _ ⟨ba, rfl, rfl⟩
          refine ⟨(by repeat (first | exact ro_refl | exact ro_pre | refine ro_tail ?_ | refine ro_app ?_)), ?_⟩
          refine TA.one 6 (by kernel_rfl) ?_
          first
            | refine TO.does (listed' := #[true, true, true, true, true, true, true, false]) none rfl rfl rfl rfl (by kernel_rfl) (Does.store (i := 0) rfl rfl rfl sz25 rfl rfl (by first | decide | omega) rfl rfl) ?_
            | refine TO.does (listed' := #[true, true, true, true, true, true, true, false]) none rfl rfl rfl rfl (by kernel_rfl) (Does.store (i := 1) rfl rfl rfl sz25 rfl rfl (by first | decide | omega) rfl rfl) ?_
            | refine TO.does (listed' := #[true, true, true, true, true, true, true, false]) none rfl rfl rfl rfl (by kernel_rfl) (Does.store (i := 2) rfl rfl rfl sz25 rfl rfl (by first | decide | omega) rfl rfl) ?_
            | refine TO.does (listed' := #[true, true, true, true, true, true, true, false]) none rfl rfl rfl rfl (by kernel_rfl) (Does.store (i := 3) rfl rfl rfl sz25 rfl rfl (by first | decide | omega) rfl rfl) ?_
            | refine TO.does (listed' := #[true, true, true, true, true, true, true, false]) none rfl rfl rfl rfl (by kernel_rfl) (Does.store (i := 4) rfl rfl rfl sz25 rfl rfl (by first | decide | omega) rfl rfl) ?_
            | refine TO.does (listed' := #[true, true, true, true, true, true, true, false]) none rfl rfl rfl rfl (by kernel_rfl) (Does.store (i := 5) rfl rfl rfl sz25 rfl rfl (by first | decide | omega) rfl rfl) ?_
          rintro _ _ ⟨rfl, rfl⟩
          refine ⟨(by repeat (first | exact ro_refl | exact ro_pre | refine ro_tail ?_ | refine ro_app ?_)), ?_⟩
          refine TA.one 7 (by kernel_rfl) ?_
          first
            | refine TO.does (listed' := #[true, true, true, true, true, true, true, true]) none rfl rfl rfl rfl (by kernel_rfl) (Does.store (i := 0) rfl rfl rfl sz25 rfl rfl (by first | decide | omega) rfl rfl) ?_
            | refine TO.does (listed' := #[true, true, true, true, true, true, true, true]) none rfl rfl rfl rfl (by kernel_rfl) (Does.store (i := 1) rfl rfl rfl sz25 rfl rfl (by first | decide | omega) rfl rfl) ?_
            | refine TO.does (listed' := #[true, true, true, true, true, true, true, true]) none rfl rfl rfl rfl (by kernel_rfl) (Does.store (i := 2) rfl rfl rfl sz25 rfl rfl (by first | decide | omega) rfl rfl) ?_
            | refine TO.does (listed' := #[true, true, true, true, true, true, true, true]) none rfl rfl rfl rfl (by kernel_rfl) (Does.store (i := 3) rfl rfl rfl sz25 rfl rfl (by first | decide | omega) rfl rfl) ?_
            | refine TO.does (listed' := #[true, true, true, true, true, true, true, true]) none rfl rfl rfl rfl (by kernel_rfl) (Does.store (i := 4) rfl rfl rfl sz25 rfl rfl (by first | decide | omega) rfl rfl) ?_
            | refine TO.does (listed' := #[true, true, true, true, true, true, true, true]) none rfl rfl rfl rfl (by kernel_rfl) (Does.store (i := 5) rfl rfl rfl sz25 rfl rfl (by first | decide | omega) rfl rfl) ?_
          rintro _ _ ⟨rfl, rfl⟩
          refine ⟨(by repeat (first | exact ro_refl | exact ro_pre | refine ro_tail ?_ | refine ro_app ?_)), ?_⟩
          refine TA.done (by kernel_rfl) ?_
          refine AtX.join (ba, bb, (fp, fl, fk, fn), (gp, gl, gk, gn)) ?_ (Sub.cons rfl (Sub.cons rfl (Sub.nil _))) (fun w h => by first | exact own_two w h | exact own_two' w h)
          exact ⟨⟨hf, hfn⟩, ⟨hg, hgn⟩⟩
        · skip
          refine TO.does (listed' := #[true, true, true, false, true, true, false, false]) (some 5) rfl rfl rfl rfl (by kernel_rfl) (Does.alloc ze25 rfl) ?_
          rintro _ _ ⟨ba, rfl, rfl⟩
          refine ⟨(by repeat (first | exact ro_refl | exact ro_pre | refine ro_tail ?_ | refine ro_app ?_)), ?_⟩
          refine TA.one 3 (by kernel_rfl) ?_
          refine TO.does (listed' := #[true, true, true, true, true, true, false, false]) (some 15) rfl rfl rfl rfl (by kernel_rfl) (Does.callF go21 rfl (fit_fn p2 pl2 kd2 A2 n2 cap2 _ hp2 hpl2 hkd2 hc2)) ?_
          rintro _ _ ⟨gp, gl, gk, gn, rfl, hg, hgn, rfl⟩
          refine ⟨(by repeat (first | exact ro_refl | exact ro_pre | refine ro_tail ?_ | refine ro_app ?_)), ?_⟩
          refine TA.one 6 (by kernel_rfl) ?_
          first
            | refine TO.does (listed' := #[true, true, true, true, true, true, true, false]) none rfl rfl rfl rfl (by kernel_rfl) (Does.store (i := 0) rfl rfl rfl sz25 rfl rfl (by first | decide | omega) rfl rfl) ?_
            | refine TO.does (listed' := #[true, true, true, true, true, true, true, false]) none rfl rfl rfl rfl (by kernel_rfl) (Does.store (i := 1) rfl rfl rfl sz25 rfl rfl (by first | decide | omega) rfl rfl) ?_
            | refine TO.does (listed' := #[true, true, true, true, true, true, true, false]) none rfl rfl rfl rfl (by kernel_rfl) (Does.store (i := 2) rfl rfl rfl sz25 rfl rfl (by first | decide | omega) rfl rfl) ?_
            | refine TO.does (listed' := #[true, true, true, true, true, true, true, false]) none rfl rfl rfl rfl (by kernel_rfl) (Does.store (i := 3) rfl rfl rfl sz25 rfl rfl (by first | decide | omega) rfl rfl) ?_
            | refine TO.does (listed' := #[true, true, true, true, true, true, true, false]) none rfl rfl rfl rfl (by kernel_rfl) (Does.store (i := 4) rfl rfl rfl sz25 rfl rfl (by first | decide | omega) rfl rfl) ?_
            | refine TO.does (listed' := #[true, true, true, true, true, true, true, false]) none rfl rfl rfl rfl (by kernel_rfl) (Does.store (i := 5) rfl rfl rfl sz25 rfl rfl (by first | decide | omega) rfl rfl) ?_
          rintro _ _ ⟨rfl, rfl⟩
          refine ⟨(by repeat (first | exact ro_refl | exact ro_pre | refine ro_tail ?_ | refine ro_app ?_)), ?_⟩
          refine TA.one 7 (by kernel_rfl) ?_
          first
            | refine TO.does (listed' := #[true, true, true, true, true, true, true, true]) none rfl rfl rfl rfl (by kernel_rfl) (Does.store (i := 0) rfl rfl rfl sz25 rfl rfl (by first | decide | omega) rfl rfl) ?_
            | refine TO.does (listed' := #[true, true, true, true, true, true, true, true]) none rfl rfl rfl rfl (by kernel_rfl) (Does.store (i := 1) rfl rfl rfl sz25 rfl rfl (by first | decide | omega) rfl rfl) ?_
            | refine TO.does (listed' := #[true, true, true, true, true, true, true, true]) none rfl rfl rfl rfl (by kernel_rfl) (Does.store (i := 2) rfl rfl rfl sz25 rfl rfl (by first | decide | omega) rfl rfl) ?_
            | refine TO.does (listed' := #[true, true, true, true, true, true, true, true]) none rfl rfl rfl rfl (by kernel_rfl) (Does.store (i := 3) rfl rfl rfl sz25 rfl rfl (by first | decide | omega) rfl rfl) ?_
            | refine TO.does (listed' := #[true, true, true, true, true, true, true, true]) none rfl rfl rfl rfl (by kernel_rfl) (Does.store (i := 4) rfl rfl rfl sz25 rfl rfl (by first | decide | omega) rfl rfl) ?_
            | refine TO.does (listed' := #[true, true, true, true, true, true, true, true]) none rfl rfl rfl rfl (by kernel_rfl) (Does.store (i := 5) rfl rfl rfl sz25 rfl rfl (by first | decide | omega) rfl rfl) ?_
          rintro _ _ ⟨rfl, rfl⟩
          refine ⟨(by repeat (first | exact ro_refl | exact ro_pre | refine ro_tail ?_ | refine ro_app ?_)), ?_⟩
          refine TA.done (by kernel_rfl) ?_
          refine AtX.join (ba, bb, (fp, fl, fk, fn), (gp, gl, gk, gn)) ?_ (Sub.cons rfl (Sub.cons rfl (Sub.nil _))) (fun w h => by first | exact own_two w h | exact own_two' w h)
          exact ⟨⟨hf, hfn⟩, ⟨hg, hgn⟩⟩
    · skip
      refine TO.does (listed' := #[true, false, true, false, true, false, false, false]) (some 5) rfl rfl rfl rfl (by kernel_rfl) (Does.alloc ze25 rfl) ?_
      rintro _ _ ⟨ba, rfl, rfl⟩
      refine ⟨(by repeat (first | exact ro_refl | exact ro_pre | refine ro_tail ?_ | refine ro_app ?_)), ?_⟩
      refine TA.two 1 5 (by kernel_rfl) ?_ ?_
      · skip
        refine TO.does (listed' := #[true, true, true, false, true, false, false, false]) (some 13) rfl rfl rfl rfl (by kernel_rfl) (Does.callF go21 rfl (fit_fn p pl kd A n c _ hp hpl hkd hc)) ?_
        rintro _ _ ⟨fp, fl, fk, fn, rfl, hf, hfn, rfl⟩
        refine ⟨(by repeat (first | exact ro_refl | exact ro_pre | refine ro_tail ?_ | refine ro_app ?_)), ?_⟩
        refine TA.two 3 5 (by kernel_rfl) ?_ ?_
        · skip
          refine TO.does (listed' := #[true, true, true, true, true, false, false, false]) (some 15) rfl rfl rfl rfl (by kernel_rfl) (Does.callF go21 rfl (fit_fn p2 pl2 kd2 A2 n2 cap2 _ hp2 hpl2 hkd2 hc2)) ?_
          rintro _ _ ⟨gp, gl, gk, gn, rfl, hg, hgn, rfl⟩
          refine ⟨(by repeat (first | exact ro_refl | exact ro_pre | refine ro_tail ?_ | refine ro_app ?_)), ?_⟩
          refine TA.one 5 (by kernel_rfl) ?_
          refine TO.does (listed' := #[true, true, true, true, true, true, false, false]) (some 6) rfl rfl rfl rfl (by kernel_rfl) (Does.alloc ze25 rfl) ?_
          rintro _ _ ⟨bb, rfl, rfl⟩
          refine ⟨(by repeat (first | exact ro_refl | exact ro_pre | refine ro_tail ?_ | refine ro_app ?_)), ?_⟩
          refine TA.one 6 (by kernel_rfl) ?_
          first
            | refine TO.does (listed' := #[true, true, true, true, true, true, true, false]) none rfl rfl rfl rfl (by kernel_rfl) (Does.store (i := 0) rfl rfl rfl sz25 rfl rfl (by first | decide | omega) rfl rfl) ?_
            | refine TO.does (listed' := #[true, true, true, true, true, true, true, false]) none rfl rfl rfl rfl (by kernel_rfl) (Does.store (i := 1) rfl rfl rfl sz25 rfl rfl (by first | decide | omega) rfl rfl) ?_
            | refine TO.does (listed' := #[true, true, true, true, true, true, true, false]) none rfl rfl rfl rfl (by kernel_rfl) (Does.store (i := 2) rfl rfl rfl sz25 rfl rfl (by first | decide | omega) rfl rfl) ?_
            | refine TO.does (listed' := #[true, true, true, true, true, true, true, false]) none rfl rfl rfl rfl (by kernel_rfl) (Does.store (i := 3) rfl rfl rfl sz25 rfl rfl (by first | decide | omega) rfl rfl) ?_
            | refine TO.does (listed' := #[true, true, true, true, true, true, true, false]) none rfl rfl rfl rfl (by kernel_rfl) (Does.store (i := 4) rfl rfl rfl sz25 rfl rfl (by first | decide | omega) rfl rfl) ?_
            | refine TO.does (listed' := #[true, true, true, true, true, true, true, false]) none rfl rfl rfl rfl (by kernel_rfl) (Does.store (i := 5) rfl rfl rfl sz25 rfl rfl (by first | decide | omega) rfl rfl) ?_
          rintro _ _ ⟨rfl, rfl⟩
          refine ⟨(by repeat (first | exact ro_refl | exact ro_pre | refine ro_tail ?_ | refine ro_app ?_)), ?_⟩
          refine TA.one 7 (by kernel_rfl) ?_
          first
            | refine TO.does (listed' := #[true, true, true, true, true, true, true, true]) none rfl rfl rfl rfl (by kernel_rfl) (Does.store (i := 0) rfl rfl rfl sz25 rfl rfl (by first | decide | omega) rfl rfl) ?_
            | refine TO.does (listed' := #[true, true, true, true, true, true, true, true]) none rfl rfl rfl rfl (by kernel_rfl) (Does.store (i := 1) rfl rfl rfl sz25 rfl rfl (by first | decide | omega) rfl rfl) ?_
            | refine TO.does (listed' := #[true, true, true, true, true, true, true, true]) none rfl rfl rfl rfl (by kernel_rfl) (Does.store (i := 2) rfl rfl rfl sz25 rfl rfl (by first | decide | omega) rfl rfl) ?_
            | refine TO.does (listed' := #[true, true, true, true, true, true, true, true]) none rfl rfl rfl rfl (by kernel_rfl) (Does.store (i := 3) rfl rfl rfl sz25 rfl rfl (by first | decide | omega) rfl rfl) ?_
            | refine TO.does (listed' := #[true, true, true, true, true, true, true, true]) none rfl rfl rfl rfl (by kernel_rfl) (Does.store (i := 4) rfl rfl rfl sz25 rfl rfl (by first | decide | omega) rfl rfl) ?_
            | refine TO.does (listed' := #[true, true, true, true, true, true, true, true]) none rfl rfl rfl rfl (by kernel_rfl) (Does.store (i := 5) rfl rfl rfl sz25 rfl rfl (by first | decide | omega) rfl rfl) ?_
          rintro _ _ ⟨rfl, rfl⟩
          refine ⟨(by repeat (first | exact ro_refl | exact ro_pre | refine ro_tail ?_ | refine ro_app ?_)), ?_⟩
          refine TA.done (by kernel_rfl) ?_
          refine AtX.join (ba, bb, (fp, fl, fk, fn), (gp, gl, gk, gn)) ?_ (Sub.cons rfl (Sub.cons rfl (Sub.nil _))) (fun w h => by first | exact own_two w h | exact own_two' w h)
          exact ⟨⟨hf, hfn⟩, ⟨hg, hgn⟩⟩
        · skip
          refine TO.does (listed' := #[true, true, true, false, true, true, false, false]) (some 6) rfl rfl rfl rfl (by kernel_rfl) (Does.alloc ze25 rfl) ?_
          rintro _ _ ⟨bb, rfl, rfl⟩
          refine ⟨(by repeat (first | exact ro_refl | exact ro_pre | refine ro_tail ?_ | refine ro_app ?_)), ?_⟩
          refine TA.one 3 (by kernel_rfl) ?_
          refine TO.does (listed' := #[true, true, true, true, true, true, false, false]) (some 15) rfl rfl rfl rfl (by kernel_rfl) (Does.callF go21 rfl (fit_fn p2 pl2 kd2 A2 n2 cap2 _ hp2 hpl2 hkd2 hc2)) ?_
          rintro _ _ ⟨gp, gl, gk, gn, rfl, hg, hgn, rfl⟩
          refine ⟨(by repeat (first | exact ro_refl | exact ro_pre | refine ro_tail ?_ | refine ro_app ?_)), ?_⟩
          refine TA.one 6 (by kernel_rfl) ?_
          first
            | refine TO.does (listed' := #[true, true, true, true, true, true, true, false]) none rfl rfl rfl rfl (by kernel_rfl) (Does.store (i := 0) rfl rfl rfl sz25 rfl rfl (by first | decide | omega) rfl rfl) ?_
            | refine TO.does (listed' := #[true, true, true, true, true, true, true, false]) none rfl rfl rfl rfl (by kernel_rfl) (Does.store (i := 1) rfl rfl rfl sz25 rfl rfl (by first | decide | omega) rfl rfl) ?_
            | refine TO.does (listed' := #[true, true, true, true, true, true, true, false]) none rfl rfl rfl rfl (by kernel_rfl) (Does.store (i := 2) rfl rfl rfl sz25 rfl rfl (by first | decide | omega) rfl rfl) ?_
            | refine TO.does (listed' := #[true, true, true, true, true, true, true, false]) none rfl rfl rfl rfl (by kernel_rfl) (Does.store (i := 3) rfl rfl rfl sz25 rfl rfl (by first | decide | omega) rfl rfl) ?_
            | refine TO.does (listed' := #[true, true, true, true, true, true, true, false]) none rfl rfl rfl rfl (by kernel_rfl) (Does.store (i := 4) rfl rfl rfl sz25 rfl rfl (by first | decide | omega) rfl rfl) ?_
            | refine TO.does (listed' := #[true, true, true, true, true, true, true, false]) none rfl rfl rfl rfl (by kernel_rfl) (Does.store (i := 5) rfl rfl rfl sz25 rfl rfl (by first | decide | omega) rfl rfl) ?_
          rintro _ _ ⟨rfl, rfl⟩
          refine ⟨(by repeat (first | exact ro_refl | exact ro_pre | refine ro_tail ?_ | refine ro_app ?_)), ?_⟩
          refine TA.one 7 (by kernel_rfl) ?_
          first
            | refine TO.does (listed' := #[true, true, true, true, true, true, true, true]) none rfl rfl rfl rfl (by kernel_rfl) (Does.store (i := 0) rfl rfl rfl sz25 rfl rfl (by first | decide | omega) rfl rfl) ?_
            | refine TO.does (listed' := #[true, true, true, true, true, true, true, true]) none rfl rfl rfl rfl (by kernel_rfl) (Does.store (i := 1) rfl rfl rfl sz25 rfl rfl (by first | decide | omega) rfl rfl) ?_
            | refine TO.does (listed' := #[true, true, true, true, true, true, true, true]) none rfl rfl rfl rfl (by kernel_rfl) (Does.store (i := 2) rfl rfl rfl sz25 rfl rfl (by first | decide | omega) rfl rfl) ?_
            | refine TO.does (listed' := #[true, true, true, true, true, true, true, true]) none rfl rfl rfl rfl (by kernel_rfl) (Does.store (i := 3) rfl rfl rfl sz25 rfl rfl (by first | decide | omega) rfl rfl) ?_
            | refine TO.does (listed' := #[true, true, true, true, true, true, true, true]) none rfl rfl rfl rfl (by kernel_rfl) (Does.store (i := 4) rfl rfl rfl sz25 rfl rfl (by first | decide | omega) rfl rfl) ?_
            | refine TO.does (listed' := #[true, true, true, true, true, true, true, true]) none rfl rfl rfl rfl (by kernel_rfl) (Does.store (i := 5) rfl rfl rfl sz25 rfl rfl (by first | decide | omega) rfl rfl) ?_
          rintro _ _ ⟨rfl, rfl⟩
          refine ⟨(by repeat (first | exact ro_refl | exact ro_pre | refine ro_tail ?_ | refine ro_app ?_)), ?_⟩
          refine TA.done (by kernel_rfl) ?_
          refine AtX.join (ba, bb, (fp, fl, fk, fn), (gp, gl, gk, gn)) ?_ (Sub.cons rfl (Sub.cons rfl (Sub.nil _))) (fun w h => by first | exact own_two w h | exact own_two' w h)
          exact ⟨⟨hf, hfn⟩, ⟨hg, hgn⟩⟩
      · skip
        refine TO.does (listed' := #[true, false, true, false, true, true, false, false]) (some 6) rfl rfl rfl rfl (by kernel_rfl) (Does.alloc ze25 rfl) ?_
        rintro _ _ ⟨bb, rfl, rfl⟩
        refine ⟨(by repeat (first | exact ro_refl | exact ro_pre | refine ro_tail ?_ | refine ro_app ?_)), ?_⟩
        refine TA.one 1 (by kernel_rfl) ?_
        refine TO.does (listed' := #[true, true, true, false, true, true, false, false]) (some 13) rfl rfl rfl rfl (by kernel_rfl) (Does.callF go21 rfl (fit_fn p pl kd A n c _ hp hpl hkd hc)) ?_
        rintro _ _ ⟨fp, fl, fk, fn, rfl, hf, hfn, rfl⟩
        refine ⟨(by repeat (first | exact ro_refl | exact ro_pre | refine ro_tail ?_ | refine ro_app ?_)), ?_⟩
        refine TA.one 3 (by kernel_rfl) ?_
        refine TO.does (listed' := #[true, true, true, true, true, true, false, false]) (some 15) rfl rfl rfl rfl (by kernel_rfl) (Does.callF go21 rfl (fit_fn p2 pl2 kd2 A2 n2 cap2 _ hp2 hpl2 hkd2 hc2)) ?_
        rintro _ _ ⟨gp, gl, gk, gn, rfl, hg, hgn, rfl⟩
        refine ⟨(by repeat (first | exact ro_refl | exact ro_pre | refine ro_tail ?_ | refine ro_app ?_)), ?_⟩
        refine TA.one 6 (by kernel_rfl) ?_
        first
          | refine TO.does (listed' := #[true, true, true, true, true, true, true, false]) none rfl rfl rfl rfl (by kernel_rfl) (Does.store (i := 0) rfl rfl rfl sz25 rfl rfl (by first | decide | omega) rfl rfl) ?_
          | refine TO.does (listed' := #[true, true, true, true, true, true, true, false]) none rfl rfl rfl rfl (by kernel_rfl) (Does.store (i := 1) rfl rfl rfl sz25 rfl rfl (by first | decide | omega) rfl rfl) ?_
          | refine TO.does (listed' := #[true, true, true, true, true, true, true, false]) none rfl rfl rfl rfl (by kernel_rfl) (Does.store (i := 2) rfl rfl rfl sz25 rfl rfl (by first | decide | omega) rfl rfl) ?_
          | refine TO.does (listed' := #[true, true, true, true, true, true, true, false]) none rfl rfl rfl rfl (by kernel_rfl) (Does.store (i := 3) rfl rfl rfl sz25 rfl rfl (by first | decide | omega) rfl rfl) ?_
          | refine TO.does (listed' := #[true, true, true, true, true, true, true, false]) none rfl rfl rfl rfl (by kernel_rfl) (Does.store (i := 4) rfl rfl rfl sz25 rfl rfl (by first | decide | omega) rfl rfl) ?_
          | refine TO.does (listed' := #[true, true, true, true, true, true, true, false]) none rfl rfl rfl rfl (by kernel_rfl) (Does.store (i := 5) rfl rfl rfl sz25 rfl rfl (by first | decide | omega) rfl rfl) ?_
        rintro _ _ ⟨rfl, rfl⟩
        refine ⟨(by repeat (first | exact ro_refl | exact ro_pre | refine ro_tail ?_ | refine ro_app ?_)), ?_⟩
        refine TA.one 7 (by kernel_rfl) ?_
        first
          | refine TO.does (listed' := #[true, true, true, true, true, true, true, true]) none rfl rfl rfl rfl (by kernel_rfl) (Does.store (i := 0) rfl rfl rfl sz25 rfl rfl (by first | decide | omega) rfl rfl) ?_
          | refine TO.does (listed' := #[true, true, true, true, true, true, true, true]) none rfl rfl rfl rfl (by kernel_rfl) (Does.store (i := 1) rfl rfl rfl sz25 rfl rfl (by first | decide | omega) rfl rfl) ?_
          | refine TO.does (listed' := #[true, true, true, true, true, true, true, true]) none rfl rfl rfl rfl (by kernel_rfl) (Does.store (i := 2) rfl rfl rfl sz25 rfl rfl (by first | decide | omega) rfl rfl) ?_
          | refine TO.does (listed' := #[true, true, true, true, true, true, true, true]) none rfl rfl rfl rfl (by kernel_rfl) (Does.store (i := 3) rfl rfl rfl sz25 rfl rfl (by first | decide | omega) rfl rfl) ?_
          | refine TO.does (listed' := #[true, true, true, true, true, true, true, true]) none rfl rfl rfl rfl (by kernel_rfl) (Does.store (i := 4) rfl rfl rfl sz25 rfl rfl (by first | decide | omega) rfl rfl) ?_
          | refine TO.does (listed' := #[true, true, true, true, true, true, true, true]) none rfl rfl rfl rfl (by kernel_rfl) (Does.store (i := 5) rfl rfl rfl sz25 rfl rfl (by first | decide | omega) rfl rfl) ?_
        rintro _ _ ⟨rfl, rfl⟩
        refine ⟨(by repeat (first | exact ro_refl | exact ro_pre | refine ro_tail ?_ | refine ro_app ?_)), ?_⟩
        refine TA.done (by kernel_rfl) ?_
        refine AtX.join (ba, bb, (fp, fl, fk, fn), (gp, gl, gk, gn)) ?_ (Sub.cons rfl (Sub.cons rfl (Sub.nil _))) (fun w h => by first | exact own_two w h | exact own_two' w h)
        exact ⟨⟨hf, hfn⟩, ⟨hg, hgn⟩⟩
    · skip
      refine TO.does (listed' := #[true, false, true, false, false, true, false, false]) (some 6) rfl rfl rfl rfl (by kernel_rfl) (Does.alloc ze25 rfl) ?_
      rintro _ _ ⟨bb, rfl, rfl⟩
      refine ⟨(by repeat (first | exact ro_refl | exact ro_pre | refine ro_tail ?_ | refine ro_app ?_)), ?_⟩
      refine TA.two 1 4 (by kernel_rfl) ?_ ?_
      · skip
        refine TO.does (listed' := #[true, true, true, false, false, true, false, false]) (some 13) rfl rfl rfl rfl (by kernel_rfl) (Does.callF go21 rfl (fit_fn p pl kd A n c _ hp hpl hkd hc)) ?_
        rintro _ _ ⟨fp, fl, fk, fn, rfl, hf, hfn, rfl⟩
        refine ⟨(by repeat (first | exact ro_refl | exact ro_pre | refine ro_tail ?_ | refine ro_app ?_)), ?_⟩
        refine TA.two 3 4 (by kernel_rfl) ?_ ?_
        · skip
          refine TO.does (listed' := #[true, true, true, true, false, true, false, false]) (some 15) rfl rfl rfl rfl (by kernel_rfl) (Does.callF go21 rfl (fit_fn p2 pl2 kd2 A2 n2 cap2 _ hp2 hpl2 hkd2 hc2)) ?_
          rintro _ _ ⟨gp, gl, gk, gn, rfl, hg, hgn, rfl⟩
          refine ⟨(by repeat (first | exact ro_refl | exact ro_pre | refine ro_tail ?_ | refine ro_app ?_)), ?_⟩
          refine TA.one 4 (by kernel_rfl) ?_
          refine TO.does (listed' := #[true, true, true, true, true, true, false, false]) (some 5) rfl rfl rfl rfl (by kernel_rfl) (Does.alloc ze25 rfl) ?_
          rintro _ _ ⟨ba, rfl, rfl⟩
          refine ⟨(by repeat (first | exact ro_refl | exact ro_pre | refine ro_tail ?_ | refine ro_app ?_)), ?_⟩
          refine TA.one 6 (by kernel_rfl) ?_
          first
            | refine TO.does (listed' := #[true, true, true, true, true, true, true, false]) none rfl rfl rfl rfl (by kernel_rfl) (Does.store (i := 0) rfl rfl rfl sz25 rfl rfl (by first | decide | omega) rfl rfl) ?_
            | refine TO.does (listed' := #[true, true, true, true, true, true, true, false]) none rfl rfl rfl rfl (by kernel_rfl) (Does.store (i := 1) rfl rfl rfl sz25 rfl rfl (by first | decide | omega) rfl rfl) ?_
            | refine TO.does (listed' := #[true, true, true, true, true, true, true, false]) none rfl rfl rfl rfl (by kernel_rfl) (Does.store (i := 2) rfl rfl rfl sz25 rfl rfl (by first | decide | omega) rfl rfl) ?_
            | refine TO.does (listed' := #[true, true, true, true, true, true, true, false]) none rfl rfl rfl rfl (by kernel_rfl) (Does.store (i := 3) rfl rfl rfl sz25 rfl rfl (by first | decide | omega) rfl rfl) ?_
            | refine TO.does (listed' := #[true, true, true, true, true, true, true, false]) none rfl rfl rfl rfl (by kernel_rfl) (Does.store (i := 4) rfl rfl rfl sz25 rfl rfl (by first | decide | omega) rfl rfl) ?_
            | refine TO.does (listed' := #[true, true, true, true, true, true, true, false]) none rfl rfl rfl rfl (by kernel_rfl) (Does.store (i := 5) rfl rfl rfl sz25 rfl rfl (by first | decide | omega) rfl rfl) ?_
          rintro _ _ ⟨rfl, rfl⟩
          refine ⟨(by repeat (first | exact ro_refl | exact ro_pre | refine ro_tail ?_ | refine ro_app ?_)), ?_⟩
          refine TA.one 7 (by kernel_rfl) ?_
          first
            | refine TO.does (listed' := #[true, true, true, true, true, true, true, true]) none rfl rfl rfl rfl (by kernel_rfl) (Does.store (i := 0) rfl rfl rfl sz25 rfl rfl (by first | decide | omega) rfl rfl) ?_
            | refine TO.does (listed' := #[true, true, true, true, true, true, true, true]) none rfl rfl rfl rfl (by kernel_rfl) (Does.store (i := 1) rfl rfl rfl sz25 rfl rfl (by first | decide | omega) rfl rfl) ?_
            | refine TO.does (listed' := #[true, true, true, true, true, true, true, true]) none rfl rfl rfl rfl (by kernel_rfl) (Does.store (i := 2) rfl rfl rfl sz25 rfl rfl (by first | decide | omega) rfl rfl) ?_
            | refine TO.does (listed' := #[true, true, true, true, true, true, true, true]) none rfl rfl rfl rfl (by kernel_rfl) (Does.store (i := 3) rfl rfl rfl sz25 rfl rfl (by first | decide | omega) rfl rfl) ?_
            | refine TO.does (listed' := #[true, true, true, true, true, true, true, true]) none rfl rfl rfl rfl (by kernel_rfl) (Does.store (i := 4) rfl rfl rfl sz25 rfl rfl (by first | decide | omega) rfl rfl) ?_
            | refine TO.does (listed' := #[true, true, true, true, true, true, true, true]) none rfl rfl rfl rfl (by kernel_rfl) (Does.store (i := 5) rfl rfl rfl sz25 rfl rfl (by first | decide | omega) rfl rfl) ?_
          rintro _ _ ⟨rfl, rfl⟩
          refine ⟨(by repeat (first | exact ro_refl | exact ro_pre | refine ro_tail ?_ | refine ro_app ?_)), ?_⟩
          refine TA.done (by kernel_rfl) ?_
          refine AtX.join (ba, bb, (fp, fl, fk, fn), (gp, gl, gk, gn)) ?_ (Sub.cons rfl (Sub.cons rfl (Sub.nil _))) (fun w h => by first | exact own_two w h | exact own_two' w h)
          exact ⟨⟨hf, hfn⟩, ⟨hg, hgn⟩⟩
        · skip
          refine TO.does (listed' := #[true, true, true, false, true, true, false, false]) (some 5) rfl rfl rfl rfl (by kernel_rfl) (Does.alloc ze25 rfl) ?_
          rintro _ _ ⟨ba, rfl, rfl⟩
          refine ⟨(by repeat (first | exact ro_refl | exact ro_pre | refine ro_tail ?_ | refine ro_app ?_)), ?_⟩
          refine TA.one 3 (by kernel_rfl) ?_
          refine TO.does (listed' := #[true, true, true, true, true, true, false, false]) (some 15) rfl rfl rfl rfl (by kernel_rfl) (Does.callF go21 rfl (fit_fn p2 pl2 kd2 A2 n2 cap2 _ hp2 hpl2 hkd2 hc2)) ?_
          rintro _ _ ⟨gp, gl, gk, gn, rfl, hg, hgn, rfl⟩
          refine ⟨(by repeat (first | exact ro_refl | exact ro_pre | refine ro_tail ?_ | refine ro_app ?_)), ?_⟩
          refine TA.one 6 (by kernel_rfl) ?_
          first
            | refine TO.does (listed' := #[true, true, true, true, true, true, true, false]) none rfl rfl rfl rfl (by kernel_rfl) (Does.store (i := 0) rfl rfl rfl sz25 rfl rfl (by first | decide | omega) rfl rfl) ?_
            | refine TO.does (listed' := #[true, true, true, true, true, true, true, false]) none rfl rfl rfl rfl (by kernel_rfl) (Does.store (i := 1) rfl rfl rfl sz25 rfl rfl (by first | decide | omega) rfl rfl) ?_
            | refine TO.does (listed' := #[true, true, true, true, true, true, true, false]) none rfl rfl rfl rfl (by kernel_rfl) (Does.store (i := 2) rfl rfl rfl sz25 rfl rfl (by first | decide | omega) rfl rfl) ?_
            | refine TO.does (listed' := #[true, true, true, true, true, true, true, false]) none rfl rfl rfl rfl (by kernel_rfl) (Does.store (i := 3) rfl rfl rfl sz25 rfl rfl (by first | decide | omega) rfl rfl) ?_
            | refine TO.does (listed' := #[true, true, true, true, true, true, true, false]) none rfl rfl rfl rfl (by kernel_rfl) (Does.store (i := 4) rfl rfl rfl sz25 rfl rfl (by first | decide | omega) rfl rfl) ?_
            | refine TO.does (listed' := #[true, true, true, true, true, true, true, false]) none rfl rfl rfl rfl (by kernel_rfl) (Does.store (i := 5) rfl rfl rfl sz25 rfl rfl (by first | decide | omega) rfl rfl) ?_
          rintro _ _ ⟨rfl, rfl⟩
          refine ⟨(by repeat (first | exact ro_refl | exact ro_pre | refine ro_tail ?_ | refine ro_app ?_)), ?_⟩
          refine TA.one 7 (by kernel_rfl) ?_
          first
            | refine TO.does (listed' := #[true, true, true, true, true, true, true, true]) none rfl rfl rfl rfl (by kernel_rfl) (Does.store (i := 0) rfl rfl rfl sz25 rfl rfl (by first | decide | omega) rfl rfl) ?_
            | refine TO.does (listed' := #[true, true, true, true, true, true, true, true]) none rfl rfl rfl rfl (by kernel_rfl) (Does.store (i := 1) rfl rfl rfl sz25 rfl rfl (by first | decide | omega) rfl rfl) ?_
            | refine TO.does (listed' := #[true, true, true, true, true, true, true, true]) none rfl rfl rfl rfl (by kernel_rfl) (Does.store (i := 2) rfl rfl rfl sz25 rfl rfl (by first | decide | omega) rfl rfl) ?_
            | refine TO.does (listed' := #[true, true, true, true, true, true, true, true]) none rfl rfl rfl rfl (by kernel_rfl) (Does.store (i := 3) rfl rfl rfl sz25 rfl rfl (by first | decide | omega) rfl rfl) ?_
            | refine TO.does (listed' := #[true, true, true, true, true, true, true, true]) none rfl rfl rfl rfl (by kernel_rfl) (Does.store (i := 4) rfl rfl rfl sz25 rfl rfl (by first | decide | omega) rfl rfl) ?_
            | refine TO.does (listed' := #[true, true, true, true, true, true, true, true]) none rfl rfl rfl rfl (by kernel_rfl) (Does.store (i := 5) rfl rfl rfl sz25 rfl rfl (by first | decide | omega) rfl rfl) ?_
          rintro _ _ ⟨rfl, rfl⟩
          refine ⟨(by repeat (first | exact ro_refl | exact ro_pre | refine ro_tail ?_ | refine ro_app ?_)), ?_⟩
          refine TA.done (by kernel_rfl) ?_
          refine AtX.join (ba, bb, (fp, fl, fk, fn), (gp, gl, gk, gn)) ?_ (Sub.cons rfl (Sub.cons rfl (Sub.nil _))) (fun w h => by first | exact own_two w h | exact own_two' w h)
          exact ⟨⟨hf, hfn⟩, ⟨hg, hgn⟩⟩
      · skip
        refine TO.does (listed' := #[true, false, true, false, true, true, false, false]) (some 5) rfl rfl rfl rfl (by kernel_rfl) (Does.alloc ze25 rfl) ?_
        rintro _ _ ⟨ba, rfl, rfl⟩
        refine ⟨(by repeat (first | exact ro_refl | exact ro_pre | refine ro_tail ?_ | refine ro_app ?_)), ?_⟩
        refine TA.one 1 (by kernel_rfl) ?_
        refine TO.does (listed' := #[true, true, true, false, true, true, false, false]) (some 13) rfl rfl rfl rfl (by kernel_rfl) (Does.callF go21 rfl (fit_fn p pl kd A n c _ hp hpl hkd hc)) ?_
        rintro _ _ ⟨fp, fl, fk, fn, rfl, hf, hfn, rfl⟩
        refine ⟨(by repeat (first | exact ro_refl | exact ro_pre | refine ro_tail ?_ | refine ro_app ?_)), ?_⟩
        refine TA.one 3 (by kernel_rfl) ?_
        refine TO.does (listed' := #[true, true, true, true, true, true, false, false]) (some 15) rfl rfl rfl rfl (by kernel_rfl) (Does.callF go21 rfl (fit_fn p2 pl2 kd2 A2 n2 cap2 _ hp2 hpl2 hkd2 hc2)) ?_
        rintro _ _ ⟨gp, gl, gk, gn, rfl, hg, hgn, rfl⟩
        refine ⟨(by repeat (first | exact ro_refl | exact ro_pre | refine ro_tail ?_ | refine ro_app ?_)), ?_⟩
        refine TA.one 6 (by kernel_rfl) ?_
        first
          | refine TO.does (listed' := #[true, true, true, true, true, true, true, false]) none rfl rfl rfl rfl (by kernel_rfl) (Does.store (i := 0) rfl rfl rfl sz25 rfl rfl (by first | decide | omega) rfl rfl) ?_
          | refine TO.does (listed' := #[true, true, true, true, true, true, true, false]) none rfl rfl rfl rfl (by kernel_rfl) (Does.store (i := 1) rfl rfl rfl sz25 rfl rfl (by first | decide | omega) rfl rfl) ?_
          | refine TO.does (listed' := #[true, true, true, true, true, true, true, false]) none rfl rfl rfl rfl (by kernel_rfl) (Does.store (i := 2) rfl rfl rfl sz25 rfl rfl (by first | decide | omega) rfl rfl) ?_
          | refine TO.does (listed' := #[true, true, true, true, true, true, true, false]) none rfl rfl rfl rfl (by kernel_rfl) (Does.store (i := 3) rfl rfl rfl sz25 rfl rfl (by first | decide | omega) rfl rfl) ?_
          | refine TO.does (listed' := #[true, true, true, true, true, true, true, false]) none rfl rfl rfl rfl (by kernel_rfl) (Does.store (i := 4) rfl rfl rfl sz25 rfl rfl (by first | decide | omega) rfl rfl) ?_
          | refine TO.does (listed' := #[true, true, true, true, true, true, true, false]) none rfl rfl rfl rfl (by kernel_rfl) (Does.store (i := 5) rfl rfl rfl sz25 rfl rfl (by first | decide | omega) rfl rfl) ?_
        rintro _ _ ⟨rfl, rfl⟩
        refine ⟨(by repeat (first | exact ro_refl | exact ro_pre | refine ro_tail ?_ | refine ro_app ?_)), ?_⟩
        refine TA.one 7 (by kernel_rfl) ?_
        first
          | refine TO.does (listed' := #[true, true, true, true, true, true, true, true]) none rfl rfl rfl rfl (by kernel_rfl) (Does.store (i := 0) rfl rfl rfl sz25 rfl rfl (by first | decide | omega) rfl rfl) ?_
          | refine TO.does (listed' := #[true, true, true, true, true, true, true, true]) none rfl rfl rfl rfl (by kernel_rfl) (Does.store (i := 1) rfl rfl rfl sz25 rfl rfl (by first | decide | omega) rfl rfl) ?_
          | refine TO.does (listed' := #[true, true, true, true, true, true, true, true]) none rfl rfl rfl rfl (by kernel_rfl) (Does.store (i := 2) rfl rfl rfl sz25 rfl rfl (by first | decide | omega) rfl rfl) ?_
          | refine TO.does (listed' := #[true, true, true, true, true, true, true, true]) none rfl rfl rfl rfl (by kernel_rfl) (Does.store (i := 3) rfl rfl rfl sz25 rfl rfl (by first | decide | omega) rfl rfl) ?_
          | refine TO.does (listed' := #[true, true, true, true, true, true, true, true]) none rfl rfl rfl rfl (by kernel_rfl) (Does.store (i := 4) rfl rfl rfl sz25 rfl rfl (by first | decide | omega) rfl rfl) ?_
          | refine TO.does (listed' := #[true, true, true, true, true, true, true, true]) none rfl rfl rfl rfl (by kernel_rfl) (Does.store (i := 5) rfl rfl rfl sz25 rfl rfl (by first | decide | omega) rfl rfl) ?_
        rintro _ _ ⟨rfl, rfl⟩
        refine ⟨(by repeat (first | exact ro_refl | exact ro_pre | refine ro_tail ?_ | refine ro_app ?_)), ?_⟩
        refine TA.done (by kernel_rfl) ?_
        refine AtX.join (ba, bb, (fp, fl, fk, fn), (gp, gl, gk, gn)) ?_ (Sub.cons rfl (Sub.cons rfl (Sub.nil _))) (fun w h => by first | exact own_two w h | exact own_two' w h)
        exact ⟨⟨hf, hfn⟩, ⟨hg, hgn⟩⟩
  · rintro ⟨b5, b6, ⟨q, ql, qk, k⟩, ⟨q2, ql2, qk2, k2⟩⟩ ⟨⟨hm, hk⟩, ⟨hm2, hk2⟩⟩
    dsimp only at hm hk hm2 hk2 ⊢
    obtain ⟨d, rfl, hR⟩ := kept hA hn hk
    obtain ⟨d2, rfl, hR2⟩ := kept hA2 hn2 hk2
    refine TC.seq ?_
    refine TC.region ?_
    first
      | refine TL.val rfl rfl (Nat.le_of_ble_eq_true rfl) (Val.loadAgg 0 rfl ag25 sz25 rfl rfl rfl) ?_
      | refine TL.val rfl rfl (Nat.le_of_ble_eq_true rfl) (Val.loadAgg 1 rfl ag25 sz25 rfl rfl rfl) ?_
      | refine TL.val rfl rfl (Nat.le_of_ble_eq_true rfl) (Val.loadAgg 2 rfl ag25 sz25 rfl rfl rfl) ?_
      | refine TL.val rfl rfl (Nat.le_of_ble_eq_true rfl) (Val.loadAgg 3 rfl ag25 sz25 rfl rfl rfl) ?_
      | refine TL.val rfl rfl (Nat.le_of_ble_eq_true rfl) (Val.loadAgg 4 rfl ag25 sz25 rfl rfl rfl) ?_
      | refine TL.val rfl rfl (Nat.le_of_ble_eq_true rfl) (Val.loadAgg 5 rfl ag25 sz25 rfl rfl rfl) ?_
    refine TL.does (some 18) rfl rfl rfl (Does.callF go10 rfl (Put_fn q ql qk d A d.length c _ (hR.cons _ |>.cons _) rfl hm)) ?_
    rintro _ _ ⟨b7, c7, sp7, rfl, hc7, rfl⟩
    refine TL.val rfl rfl (Nat.le_of_ble_eq_true rfl) (Val.move rfl) ?_
    refine TL.val rfl rfl (Nat.le_of_ble_eq_true rfl) (Val.extract rfl rfl) ?_
    refine TL.val rfl rfl (Nat.le_of_ble_eq_true rfl) (Val.extract rfl rfl) ?_
    refine TL.val rfl rfl (Nat.le_of_ble_eq_true rfl) (Val.assign rfl) ?_
    refine TL.val rfl rfl (Nat.le_of_ble_eq_true rfl) (Val.assign rfl) ?_
    refine TL.nil ?_
    refine AtX.then ?_
    refine TC.env (E' := [(5, _), (6, _), (7, _), (8, _)]) (Sub.cons rfl (Sub.cons rfl (Sub.cons rfl (Sub.cons rfl (Sub.nil _))))) ?_
    refine TC.seq ?_
    refine TC.region ?_
    first
      | refine TL.val rfl rfl (Nat.le_of_ble_eq_true rfl) (Val.loadAgg 0 rfl ag25 sz25 rfl rfl rfl) ?_
      | refine TL.val rfl rfl (Nat.le_of_ble_eq_true rfl) (Val.loadAgg 1 rfl ag25 sz25 rfl rfl rfl) ?_
      | refine TL.val rfl rfl (Nat.le_of_ble_eq_true rfl) (Val.loadAgg 2 rfl ag25 sz25 rfl rfl rfl) ?_
      | refine TL.val rfl rfl (Nat.le_of_ble_eq_true rfl) (Val.loadAgg 3 rfl ag25 sz25 rfl rfl rfl) ?_
      | refine TL.val rfl rfl (Nat.le_of_ble_eq_true rfl) (Val.loadAgg 4 rfl ag25 sz25 rfl rfl rfl) ?_
      | refine TL.val rfl rfl (Nat.le_of_ble_eq_true rfl) (Val.loadAgg 5 rfl ag25 sz25 rfl rfl rfl) ?_
    refine TL.does (some 23) rfl rfl rfl (Does.callF go10 rfl (Put_fn q2 ql2 qk2 d2 A2 d2.length cap2 _ (hR2.cons _ |>.cons _ |>.cons _) rfl hm2)) ?_
    rintro _ _ ⟨b9, c9, sp9, rfl, hc9, rfl⟩
    refine TL.val rfl rfl (Nat.le_of_ble_eq_true rfl) (Val.move rfl) ?_
    refine TL.val rfl rfl (Nat.le_of_ble_eq_true rfl) (Val.extract rfl rfl) ?_
    refine TL.val rfl rfl (Nat.le_of_ble_eq_true rfl) (Val.extract rfl rfl) ?_
    refine TL.val rfl rfl (Nat.le_of_ble_eq_true rfl) (Val.assign rfl) ?_
    refine TL.val rfl rfl (Nat.le_of_ble_eq_true rfl) (Val.assign rfl) ?_
    refine TL.nil ?_
    refine AtX.then ?_
    refine TC.env (E' := [(5, _), (6, _), (7, _), (8, _), (9, _), (10, _)]) (Sub.cons rfl (Sub.cons rfl (Sub.cons rfl (Sub.cons rfl (Sub.cons rfl (Sub.cons rfl (Sub.nil _))))))) ?_
    refine TC.seq ?_
    refine TC.region ?_
    refine TL.val rfl rfl (Nat.le_of_ble_eq_true rfl) (Val.fieldAddr rfl fl25_0 sz22 rfl) ?_
    first
      | refine TL.val rfl rfl (Nat.le_of_ble_eq_true rfl) (Val.load 0 rfl ag22 rfl rfl) ?_
      | refine TL.val rfl rfl (Nat.le_of_ble_eq_true rfl) (Val.load 1 rfl ag22 rfl rfl) ?_
      | refine TL.val rfl rfl (Nat.le_of_ble_eq_true rfl) (Val.load 2 rfl ag22 rfl rfl) ?_
      | refine TL.val rfl rfl (Nat.le_of_ble_eq_true rfl) (Val.load 3 rfl ag22 rfl rfl) ?_
      | refine TL.val rfl rfl (Nat.le_of_ble_eq_true rfl) (Val.load 4 rfl ag22 rfl rfl) ?_
      | refine TL.val rfl rfl (Nat.le_of_ble_eq_true rfl) (Val.load 5 rfl ag22 rfl rfl) ?_
    refine TL.val rfl rfl (Nat.le_of_ble_eq_true rfl) (Val.fieldAddr rfl fl25_0 sz22 rfl) ?_
    first
      | refine TL.val rfl rfl (Nat.le_of_ble_eq_true rfl) (Val.load 0 rfl ag22 rfl rfl) ?_
      | refine TL.val rfl rfl (Nat.le_of_ble_eq_true rfl) (Val.load 1 rfl ag22 rfl rfl) ?_
      | refine TL.val rfl rfl (Nat.le_of_ble_eq_true rfl) (Val.load 2 rfl ag22 rfl rfl) ?_
      | refine TL.val rfl rfl (Nat.le_of_ble_eq_true rfl) (Val.load 3 rfl ag22 rfl rfl) ?_
      | refine TL.val rfl rfl (Nat.le_of_ble_eq_true rfl) (Val.load 4 rfl ag22 rfl rfl) ?_
      | refine TL.val rfl rfl (Nat.le_of_ble_eq_true rfl) (Val.load 5 rfl ag22 rfl rfl) ?_
    refine TL.val rfl rfl (Nat.le_of_ble_eq_true rfl) (Val.eqlI rfl rfl) ?_
    refine TL.val rfl rfl (Nat.le_of_ble_eq_true rfl) (Val.move rfl) ?_
    refine TL.gen (fun g5 hg5 => ?_)
    refine TL.gval rfl rfl (Nat.le_of_ble_eq_true rfl) rfl (Nat.le_of_ble_eq_true rfl) rfl (fun hg => by subst hg; exact (Val.fieldAddr rfl fl25_1 sz3 rfl)) ?_
    first
      | refine TL.gval rfl rfl (Nat.le_of_ble_eq_true rfl) rfl (Nat.le_of_ble_eq_true rfl) rfl (fun hg => by subst hg; exact (Val.load 0 rfl ag3 rfl rfl)) ?_
      | refine TL.gval rfl rfl (Nat.le_of_ble_eq_true rfl) rfl (Nat.le_of_ble_eq_true rfl) rfl (fun hg => by subst hg; exact (Val.load 1 rfl ag3 rfl rfl)) ?_
      | refine TL.gval rfl rfl (Nat.le_of_ble_eq_true rfl) rfl (Nat.le_of_ble_eq_true rfl) rfl (fun hg => by subst hg; exact (Val.load 2 rfl ag3 rfl rfl)) ?_
      | refine TL.gval rfl rfl (Nat.le_of_ble_eq_true rfl) rfl (Nat.le_of_ble_eq_true rfl) rfl (fun hg => by subst hg; exact (Val.load 3 rfl ag3 rfl rfl)) ?_
      | refine TL.gval rfl rfl (Nat.le_of_ble_eq_true rfl) rfl (Nat.le_of_ble_eq_true rfl) rfl (fun hg => by subst hg; exact (Val.load 4 rfl ag3 rfl rfl)) ?_
      | refine TL.gval rfl rfl (Nat.le_of_ble_eq_true rfl) rfl (Nat.le_of_ble_eq_true rfl) rfl (fun hg => by subst hg; exact (Val.load 5 rfl ag3 rfl rfl)) ?_
    refine TL.gval rfl rfl (Nat.le_of_ble_eq_true rfl) rfl (Nat.le_of_ble_eq_true rfl) rfl (fun hg => by subst hg; exact (Val.fieldAddr rfl fl25_1 sz3 rfl)) ?_
    first
      | refine TL.gval rfl rfl (Nat.le_of_ble_eq_true rfl) rfl (Nat.le_of_ble_eq_true rfl) rfl (fun hg => by subst hg; exact (Val.load 0 rfl ag3 rfl rfl)) ?_
      | refine TL.gval rfl rfl (Nat.le_of_ble_eq_true rfl) rfl (Nat.le_of_ble_eq_true rfl) rfl (fun hg => by subst hg; exact (Val.load 1 rfl ag3 rfl rfl)) ?_
      | refine TL.gval rfl rfl (Nat.le_of_ble_eq_true rfl) rfl (Nat.le_of_ble_eq_true rfl) rfl (fun hg => by subst hg; exact (Val.load 2 rfl ag3 rfl rfl)) ?_
      | refine TL.gval rfl rfl (Nat.le_of_ble_eq_true rfl) rfl (Nat.le_of_ble_eq_true rfl) rfl (fun hg => by subst hg; exact (Val.load 3 rfl ag3 rfl rfl)) ?_
      | refine TL.gval rfl rfl (Nat.le_of_ble_eq_true rfl) rfl (Nat.le_of_ble_eq_true rfl) rfl (fun hg => by subst hg; exact (Val.load 4 rfl ag3 rfl rfl)) ?_
      | refine TL.gval rfl rfl (Nat.le_of_ble_eq_true rfl) rfl (Nat.le_of_ble_eq_true rfl) rfl (fun hg => by subst hg; exact (Val.load 5 rfl ag3 rfl rfl)) ?_
    refine TL.gval rfl rfl (Nat.le_of_ble_eq_true rfl) rfl (Nat.le_of_ble_eq_true rfl) rfl (fun hg => by subst hg; exact (Val.eqlI rfl rfl)) ?_
    first
      | refine TL.val rfl rfl (Nat.le_of_ble_eq_true rfl) (Val.pickAnd rfl rfl rfl) ?_
      | refine TL.val rfl rfl (Nat.le_of_ble_eq_true rfl) (Val.pickOr rfl rfl rfl) ?_
      | refine TL.val rfl rfl (Nat.le_of_ble_eq_true rfl) (Val.pick rfl rfl rfl) ?_
    refine TL.val rfl rfl (Nat.le_of_ble_eq_true rfl) (Val.move rfl) ?_
    refine TL.gen (fun g6 hg6 => ?_)
    refine TL.gval rfl rfl (Nat.le_of_ble_eq_true rfl) rfl (Nat.le_of_ble_eq_true rfl) rfl (fun hg => by subst hg; exact (Val.fieldAddr rfl fl25_2 sz3 rfl)) ?_
    first
      | refine TL.gval rfl rfl (Nat.le_of_ble_eq_true rfl) rfl (Nat.le_of_ble_eq_true rfl) rfl (fun hg => by subst hg; exact (Val.load 0 rfl ag3 rfl rfl)) ?_
      | refine TL.gval rfl rfl (Nat.le_of_ble_eq_true rfl) rfl (Nat.le_of_ble_eq_true rfl) rfl (fun hg => by subst hg; exact (Val.load 1 rfl ag3 rfl rfl)) ?_
      | refine TL.gval rfl rfl (Nat.le_of_ble_eq_true rfl) rfl (Nat.le_of_ble_eq_true rfl) rfl (fun hg => by subst hg; exact (Val.load 2 rfl ag3 rfl rfl)) ?_
      | refine TL.gval rfl rfl (Nat.le_of_ble_eq_true rfl) rfl (Nat.le_of_ble_eq_true rfl) rfl (fun hg => by subst hg; exact (Val.load 3 rfl ag3 rfl rfl)) ?_
      | refine TL.gval rfl rfl (Nat.le_of_ble_eq_true rfl) rfl (Nat.le_of_ble_eq_true rfl) rfl (fun hg => by subst hg; exact (Val.load 4 rfl ag3 rfl rfl)) ?_
      | refine TL.gval rfl rfl (Nat.le_of_ble_eq_true rfl) rfl (Nat.le_of_ble_eq_true rfl) rfl (fun hg => by subst hg; exact (Val.load 5 rfl ag3 rfl rfl)) ?_
    refine TL.gval rfl rfl (Nat.le_of_ble_eq_true rfl) rfl (Nat.le_of_ble_eq_true rfl) rfl (fun hg => by subst hg; exact (Val.fieldAddr rfl fl25_2 sz3 rfl)) ?_
    first
      | refine TL.gval rfl rfl (Nat.le_of_ble_eq_true rfl) rfl (Nat.le_of_ble_eq_true rfl) rfl (fun hg => by subst hg; exact (Val.load 0 rfl ag3 rfl rfl)) ?_
      | refine TL.gval rfl rfl (Nat.le_of_ble_eq_true rfl) rfl (Nat.le_of_ble_eq_true rfl) rfl (fun hg => by subst hg; exact (Val.load 1 rfl ag3 rfl rfl)) ?_
      | refine TL.gval rfl rfl (Nat.le_of_ble_eq_true rfl) rfl (Nat.le_of_ble_eq_true rfl) rfl (fun hg => by subst hg; exact (Val.load 2 rfl ag3 rfl rfl)) ?_
      | refine TL.gval rfl rfl (Nat.le_of_ble_eq_true rfl) rfl (Nat.le_of_ble_eq_true rfl) rfl (fun hg => by subst hg; exact (Val.load 3 rfl ag3 rfl rfl)) ?_
      | refine TL.gval rfl rfl (Nat.le_of_ble_eq_true rfl) rfl (Nat.le_of_ble_eq_true rfl) rfl (fun hg => by subst hg; exact (Val.load 4 rfl ag3 rfl rfl)) ?_
      | refine TL.gval rfl rfl (Nat.le_of_ble_eq_true rfl) rfl (Nat.le_of_ble_eq_true rfl) rfl (fun hg => by subst hg; exact (Val.load 5 rfl ag3 rfl rfl)) ?_
    refine TL.gval rfl rfl (Nat.le_of_ble_eq_true rfl) rfl (Nat.le_of_ble_eq_true rfl) rfl (fun hg => by subst hg; exact (Val.eqlI rfl rfl)) ?_
    first
      | refine TL.val rfl rfl (Nat.le_of_ble_eq_true rfl) (Val.pickAnd rfl rfl rfl) ?_
      | refine TL.val rfl rfl (Nat.le_of_ble_eq_true rfl) (Val.pickOr rfl rfl rfl) ?_
      | refine TL.val rfl rfl (Nat.le_of_ble_eq_true rfl) (Val.pick rfl rfl rfl) ?_
    refine TL.val rfl rfl (Nat.le_of_ble_eq_true rfl) (Val.move rfl) ?_
    refine TL.gen (fun g7 hg7 => ?_)
    refine TL.gval rfl rfl (Nat.le_of_ble_eq_true rfl) rfl (Nat.le_of_ble_eq_true rfl) rfl (fun hg => by subst hg; exact (Val.fieldAddr rfl fl25_3 sz23 rfl)) ?_
    first
      | refine TL.gval rfl rfl (Nat.le_of_ble_eq_true rfl) rfl (Nat.le_of_ble_eq_true rfl) rfl (fun hg => by subst hg; exact (Val.load 0 rfl ag23 rfl rfl)) ?_
      | refine TL.gval rfl rfl (Nat.le_of_ble_eq_true rfl) rfl (Nat.le_of_ble_eq_true rfl) rfl (fun hg => by subst hg; exact (Val.load 1 rfl ag23 rfl rfl)) ?_
      | refine TL.gval rfl rfl (Nat.le_of_ble_eq_true rfl) rfl (Nat.le_of_ble_eq_true rfl) rfl (fun hg => by subst hg; exact (Val.load 2 rfl ag23 rfl rfl)) ?_
      | refine TL.gval rfl rfl (Nat.le_of_ble_eq_true rfl) rfl (Nat.le_of_ble_eq_true rfl) rfl (fun hg => by subst hg; exact (Val.load 3 rfl ag23 rfl rfl)) ?_
      | refine TL.gval rfl rfl (Nat.le_of_ble_eq_true rfl) rfl (Nat.le_of_ble_eq_true rfl) rfl (fun hg => by subst hg; exact (Val.load 4 rfl ag23 rfl rfl)) ?_
      | refine TL.gval rfl rfl (Nat.le_of_ble_eq_true rfl) rfl (Nat.le_of_ble_eq_true rfl) rfl (fun hg => by subst hg; exact (Val.load 5 rfl ag23 rfl rfl)) ?_
    refine TL.gval rfl rfl (Nat.le_of_ble_eq_true rfl) rfl (Nat.le_of_ble_eq_true rfl) rfl (fun hg => by subst hg; exact (Val.b2s (l := d) rfl us23 ui5 un9 rfl (hR.cons _ |>.cons _ |>.cons _ |>.cons _))) ?_
    refine TL.gval rfl rfl (Nat.le_of_ble_eq_true rfl) rfl (Nat.le_of_ble_eq_true rfl) rfl (fun hg => by subst hg; exact (Val.fieldAddr rfl fl25_3 sz23 rfl)) ?_
    first
      | refine TL.gval rfl rfl (Nat.le_of_ble_eq_true rfl) rfl (Nat.le_of_ble_eq_true rfl) rfl (fun hg => by subst hg; exact (Val.load 0 rfl ag23 rfl rfl)) ?_
      | refine TL.gval rfl rfl (Nat.le_of_ble_eq_true rfl) rfl (Nat.le_of_ble_eq_true rfl) rfl (fun hg => by subst hg; exact (Val.load 1 rfl ag23 rfl rfl)) ?_
      | refine TL.gval rfl rfl (Nat.le_of_ble_eq_true rfl) rfl (Nat.le_of_ble_eq_true rfl) rfl (fun hg => by subst hg; exact (Val.load 2 rfl ag23 rfl rfl)) ?_
      | refine TL.gval rfl rfl (Nat.le_of_ble_eq_true rfl) rfl (Nat.le_of_ble_eq_true rfl) rfl (fun hg => by subst hg; exact (Val.load 3 rfl ag23 rfl rfl)) ?_
      | refine TL.gval rfl rfl (Nat.le_of_ble_eq_true rfl) rfl (Nat.le_of_ble_eq_true rfl) rfl (fun hg => by subst hg; exact (Val.load 4 rfl ag23 rfl rfl)) ?_
      | refine TL.gval rfl rfl (Nat.le_of_ble_eq_true rfl) rfl (Nat.le_of_ble_eq_true rfl) rfl (fun hg => by subst hg; exact (Val.load 5 rfl ag23 rfl rfl)) ?_
    refine TL.gval rfl rfl (Nat.le_of_ble_eq_true rfl) rfl (Nat.le_of_ble_eq_true rfl) rfl (fun hg => by subst hg; exact (Val.b2s (l := d2) rfl us23 ui5 un9 rfl (hR2.cons _ |>.cons _ |>.cons _ |>.cons _))) ?_
    refine TL.gval rfl rfl (Nat.le_of_ble_eq_true rfl) rfl (Nat.le_of_ble_eq_true rfl) rfl (fun hg => by subst hg; exact (Val.eqlS rfl rfl)) ?_
    first
      | refine TL.val rfl rfl (Nat.le_of_ble_eq_true rfl) (Val.pickAnd rfl rfl rfl) ?_
      | refine TL.val rfl rfl (Nat.le_of_ble_eq_true rfl) (Val.pickOr rfl rfl rfl) ?_
      | refine TL.val rfl rfl (Nat.le_of_ble_eq_true rfl) (Val.pick rfl rfl rfl) ?_
    refine TL.val rfl rfl (Nat.le_of_ble_eq_true rfl) (Val.assign rfl) ?_
    refine TL.nil ?_
    refine AtX.then ?_
    refine TC.env (E' := [(7, _), (8, _), (9, _), (10, _), (11, _)]) (Sub.cons rfl (Sub.cons rfl (Sub.cons rfl (Sub.cons rfl (Sub.cons rfl (Sub.nil _)))))) ?_
    refine TC.seq ?_
    refine TC.region ?_
    refine TL.does (some 54) rfl rfl rfl (Does.callF go9 rfl (told_fn _)) ?_
    rintro _ _ ⟨rfl, rfl⟩
    refine TL.val rfl rfl (Nat.le_of_ble_eq_true rfl) (Val.move rfl) ?_
    refine TL.valYes rfl rfl (Nat.le_of_ble_eq_true rfl) rfl (Nat.le_of_ble_eq_true rfl) rfl (Val.move rfl) ?_
    refine TL.valYes rfl rfl (Nat.le_of_ble_eq_true rfl) rfl (Nat.le_of_ble_eq_true rfl) rfl (Val.same (v' := .bool true) (Val.eqlI rfl rfl) (by simp)) ?_
    first
      | refine TL.val rfl rfl (Nat.le_of_ble_eq_true rfl) (Val.pickAnd rfl rfl rfl) ?_
      | refine TL.val rfl rfl (Nat.le_of_ble_eq_true rfl) (Val.pickOr rfl rfl rfl) ?_
      | refine TL.val rfl rfl (Nat.le_of_ble_eq_true rfl) (Val.pick rfl rfl rfl) ?_
    refine TL.val rfl rfl (Nat.le_of_ble_eq_true rfl) (Val.move rfl) ?_
    refine TL.valYes rfl rfl (Nat.le_of_ble_eq_true rfl) rfl (Nat.le_of_ble_eq_true rfl) rfl (Val.move rfl) ?_
    refine TL.valYes rfl rfl (Nat.le_of_ble_eq_true rfl) rfl (Nat.le_of_ble_eq_true rfl) rfl (Val.same (v' := .bool true) (Val.eqlI rfl rfl) (by simp)) ?_
    first
      | refine TL.val rfl rfl (Nat.le_of_ble_eq_true rfl) (Val.pickAnd rfl rfl rfl) ?_
      | refine TL.val rfl rfl (Nat.le_of_ble_eq_true rfl) (Val.pickOr rfl rfl rfl) ?_
      | refine TL.val rfl rfl (Nat.le_of_ble_eq_true rfl) (Val.pick rfl rfl rfl) ?_
    refine TL.val rfl rfl (Nat.le_of_ble_eq_true rfl) (Val.move rfl) ?_
    refine TL.valYes rfl rfl (Nat.le_of_ble_eq_true rfl) rfl (Nat.le_of_ble_eq_true rfl) rfl (Val.move rfl) ?_
    refine TL.valYes rfl rfl (Nat.le_of_ble_eq_true rfl) rfl (Nat.le_of_ble_eq_true rfl) rfl (Val.b2s (l := cellB q ql qk d) rfl us23 ui5 un9 (by rw [cell_len hm]) (rd_all (i := 1) rfl)) ?_
    refine TL.valYes rfl rfl (Nat.le_of_ble_eq_true rfl) rfl (Nat.le_of_ble_eq_true rfl) rfl (Val.move rfl) ?_
    refine TL.valYes rfl rfl (Nat.le_of_ble_eq_true rfl) rfl (Nat.le_of_ble_eq_true rfl) rfl (Val.b2s (l := cellB q2 ql2 qk2 d2) rfl us23 ui5 un9 (by rw [cell_len hm2]) (rd_all (i := 0) rfl)) ?_
    refine TL.valYes rfl rfl (Nat.le_of_ble_eq_true rfl) rfl (Nat.le_of_ble_eq_true rfl) rfl (Val.eqlS rfl rfl) ?_
    refine TL.valYes rfl rfl (Nat.le_of_ble_eq_true rfl) rfl (Nat.le_of_ble_eq_true rfl) rfl (Val.move rfl) ?_
    refine TL.valYes rfl rfl (Nat.le_of_ble_eq_true rfl) rfl (Nat.le_of_ble_eq_true rfl) rfl (Val.same (v' := .bool true) (Val.eqlB rfl rfl un4) (by rw [str_beq, str_beq, hg7, hg6, hg5]; simp only [ofL_toList, cell_inj hm hm2, Bool.decide_and, beq_self_eq_true])) ?_
    first
      | refine TL.val rfl rfl (Nat.le_of_ble_eq_true rfl) (Val.pickAnd rfl rfl rfl) ?_
      | refine TL.val rfl rfl (Nat.le_of_ble_eq_true rfl) (Val.pickOr rfl rfl rfl) ?_
      | refine TL.val rfl rfl (Nat.le_of_ble_eq_true rfl) (Val.pick rfl rfl rfl) ?_
    refine TL.val rfl rfl (Nat.le_of_ble_eq_true rfl) (Val.assign rfl) ?_
    refine TL.nil ?_
    refine AtX.then ?_
    refine TC.env (E' := [(4, _)]) (Sub.cons rfl (Sub.nil _)) ?_
    refine TC.ret1 (fn := Try.f7) (fun _ _ h => h) rfl (RV.tmp rfl) (M' := M) (by repeat (first | exact ro_refl | exact ro_pre | refine ro_tail ?_ | refine ro_app ?_)) ?_
    exact ⟨rfl, rfl⟩

end Go.Proofs.Ytbjjjapdioegpaa
