/- walks -/
import Derived.Test.YtbjjjapdioegpaaH3
set_option linter.unusedVariables false
set_option linter.unusedSimpArgs false
set_option maxRecDepth 100000
set_option maxHeartbeats 4000000
namespace Go.Proofs.Ytbjjjapdioegpaa
open Go Go.X

theorem torn_heap1 {z : World} {m a b c d : Nat × Obj} {M : Hp} (w : World) (h : Own z w (m :: a :: b :: c :: d :: M)) : Own z w (m :: b :: d :: M) :=
  h.sublist (.cons_cons _ (.cons _ (.cons_cons _ (.cons _ (.refl _)))))
theorem torn_heap2 {z : World} {a b c d : Nat × Obj} {M : Hp} (w : World) (h : Own z w (a :: b :: c :: d :: M)) : Own z w (a :: b :: d :: M) :=
  h.sublist (.cons_cons _ (.cons_cons _ (.cons _ (.refl _))))
/-- quorumite/quorumitelaw18.LogTorn -/
theorem LogTorn_fn (p pl kd : Int) (l : List UInt8) (A : Option Addr) (n c : Nat) (p2 pl2 kd2 : Int) (l2 : List UInt8) (A2 : Option Addr) (n2 cap2 : Nat) (cut : Int) (zr : Bool) (M : Hp) (hp : 0 ≤ p ∧ p ≤ 4294967295) (hpl : -9223372036854775808 ≤ pl ∧ pl ≤ 9223372036854775807) (hkd : -9223372036854775808 ≤ kd ∧ kd ≤ 9223372036854775807) (hA : RdS M A (bv l)) (hn : n = l.length) (hc : n ≤ c) (hp2 : 0 ≤ p2 ∧ p2 ≤ 4294967295) (hpl2 : -9223372036854775808 ≤ pl2 ∧ pl2 ≤ 9223372036854775807) (hkd2 : -9223372036854775808 ≤ kd2 ∧ kd2 ≤ 9223372036854775807) (hA2 : RdS M A2 (bv l2)) (hn2 : n2 = l2.length) (hc2 : n2 ≤ cap2)  : FnC Try.prog 5 #[.agg #[.int .u32 p, .int .i64 pl, .int .i64 kd, .slice A n c], .agg #[.int .u32 p2, .int .i64 pl2, .int .i64 kd2, .slice A2 n2 cap2], .int .i64 cut, .bool zr] M (fun v M' => v = .bool true ∧ M = M') := by
  have hk0 : 0 ≤ IntKind.u64.wrap cut := by rw [w_u64m]; omega
  refine FnC.intro Try.func5 rfl 115 rfl (by simp) (fun z => ?_)
  refine TC.env (E' := [(0, _), (1, _), (2, _), (3, _)]) (Sub.cons rfl (Sub.cons rfl (Sub.cons rfl (Sub.cons rfl (Sub.nil _))))) ?_
  refine TC.seq ?_
  refine TC.region ?_
  refine TL.does (some 4) rfl rfl rfl (Does.box rfl rfl) ?_
  rintro _ _ ⟨b1, rfl, rfl⟩
  refine TL.does (some 5) rfl rfl rfl (Does.box rfl rfl) ?_
  rintro _ _ ⟨b2, rfl, rfl⟩
  refine TL.val rfl rfl (Nat.le_of_ble_eq_true rfl) (Val.assign rfl) ?_
  refine TL.nil ?_
  refine AtX.then ?_
  refine TC.env (E' := [(2, _), (3, _), (4, _), (5, _), (8, _)]) (Sub.cons rfl (Sub.cons rfl (Sub.cons rfl (Sub.cons rfl (Sub.cons rfl (Sub.nil _)))))) ?_
  refine TC.join (ι := (Nat × Nat × (Int × Int × Int × Nat) × (Int × Int × Int × Nat))) (fun i => [(9, .pointer (some ⟨i.1, 0, none⟩)), (10, .pointer (some ⟨i.2.1, 0, none⟩)), (2, .int .i64 cut), (3, .bool zr)]) (fun i => (i.1, .cells #[.int .u32 i.2.2.1.1, .int .i64 i.2.2.1.2.1, .int .i64 i.2.2.1.2.2.1, .slice A i.2.2.1.2.2.2 c] 25 (0, 0)) :: (i.2.1, .cells #[.int .u32 i.2.2.2.1, .int .i64 i.2.2.2.2.1, .int .i64 i.2.2.2.2.2.1, .slice A2 i.2.2.2.2.2.2 cap2] 25 (0, 0)) :: M) (fun i => (mayC i.2.2.1.1 i.2.2.1.2.1 i.2.2.1.2.2.1 i.2.2.1.2.2.2 = true ∧ i.2.2.1.2.2.2 ≤ n) ∧ (mayC i.2.2.2.1 i.2.2.2.2.1 i.2.2.2.2.2.1 i.2.2.2.2.2.2 = true ∧ i.2.2.2.2.2.2 ≤ n2)) ?_ ?_
  · skip
    refine TC.draw ((b2, .cells #[.int .u32 p2, .int .i64 pl2, .int .i64 kd2, .slice A2 n2 cap2] 25 (0, 0)) :: (b1, .cells #[.int .u32 p, .int .i64 pl, .int .i64 kd, .slice A n c] 25 (0, 0)) :: M) mixed ?_
    first
      | refine TA.take 0 rfl rfl rfl (Nat.le_of_ble_eq_true rfl) (by kernel_rfl) (by kernel_rfl) (by kernel_rfl) (listed' := #[true, false, false, false, false, false, false, false]) (by kernel_rfl) (by repeat (first | exact ro_refl | exact ro_pre | refine ro_tail ?_ | refine ro_app ?_)) (Val.loadAgg 0 rfl ag25 sz25 rfl rfl rfl) ?_
      | refine TA.take 0 rfl rfl rfl (Nat.le_of_ble_eq_true rfl) (by kernel_rfl) (by kernel_rfl) (by kernel_rfl) (listed' := #[true, false, false, false, false, false, false, false]) (by kernel_rfl) (by repeat (first | exact ro_refl | exact ro_pre | refine ro_tail ?_ | refine ro_app ?_)) (Val.loadAgg 1 rfl ag25 sz25 rfl rfl rfl) ?_
      | refine TA.take 0 rfl rfl rfl (Nat.le_of_ble_eq_true rfl) (by kernel_rfl) (by kernel_rfl) (by kernel_rfl) (listed' := #[true, false, false, false, false, false, false, false]) (by kernel_rfl) (by repeat (first | exact ro_refl | exact ro_pre | refine ro_tail ?_ | refine ro_app ?_)) (Val.loadAgg 2 rfl ag25 sz25 rfl rfl rfl) ?_
      | refine TA.take 0 rfl rfl rfl (Nat.le_of_ble_eq_true rfl) (by kernel_rfl) (by kernel_rfl) (by kernel_rfl) (listed' := #[true, false, false, false, false, false, false, false]) (by kernel_rfl) (by repeat (first | exact ro_refl | exact ro_pre | refine ro_tail ?_ | refine ro_app ?_)) (Val.loadAgg 3 rfl ag25 sz25 rfl rfl rfl) ?_
      | refine TA.take 0 rfl rfl rfl (Nat.le_of_ble_eq_true rfl) (by kernel_rfl) (by kernel_rfl) (by kernel_rfl) (listed' := #[true, false, false, false, false, false, false, false]) (by kernel_rfl) (by repeat (first | exact ro_refl | exact ro_pre | refine ro_tail ?_ | refine ro_app ?_)) (Val.loadAgg 4 rfl ag25 sz25 rfl rfl rfl) ?_
      | refine TA.take 0 rfl rfl rfl (Nat.le_of_ble_eq_true rfl) (by kernel_rfl) (by kernel_rfl) (by kernel_rfl) (listed' := #[true, false, false, false, false, false, false, false]) (by kernel_rfl) (by repeat (first | exact ro_refl | exact ro_pre | refine ro_tail ?_ | refine ro_app ?_)) (Val.loadAgg 5 rfl ag25 sz25 rfl rfl rfl) ?_
    first
      | refine TA.take 2 rfl rfl rfl (Nat.le_of_ble_eq_true rfl) (by kernel_rfl) (by kernel_rfl) (by kernel_rfl) (listed' := #[true, false, true, false, false, false, false, false]) (by kernel_rfl) (by repeat (first | exact ro_refl | exact ro_pre | refine ro_tail ?_ | refine ro_app ?_)) (Val.loadAgg 0 rfl ag25 sz25 rfl rfl rfl) ?_
      | refine TA.take 2 rfl rfl rfl (Nat.le_of_ble_eq_true rfl) (by kernel_rfl) (by kernel_rfl) (by kernel_rfl) (listed' := #[true, false, true, false, false, false, false, false]) (by kernel_rfl) (by repeat (first | exact ro_refl | exact ro_pre | refine ro_tail ?_ | refine ro_app ?_)) (Val.loadAgg 1 rfl ag25 sz25 rfl rfl rfl) ?_
      | refine TA.take 2 rfl rfl rfl (Nat.le_of_ble_eq_true rfl) (by kernel_rfl) (by kernel_rfl) (by kernel_rfl) (listed' := #[true, false, true, false, false, false, false, false]) (by kernel_rfl) (by repeat (first | exact ro_refl | exact ro_pre | refine ro_tail ?_ | refine ro_app ?_)) (Val.loadAgg 2 rfl ag25 sz25 rfl rfl rfl) ?_
      | refine TA.take 2 rfl rfl rfl (Nat.le_of_ble_eq_true rfl) (by kernel_rfl) (by kernel_rfl) (by kernel_rfl) (listed' := #[true, false, true, false, false, false, false, false]) (by kernel_rfl) (by repeat (first | exact ro_refl | exact ro_pre | refine ro_tail ?_ | refine ro_app ?_)) (Val.loadAgg 3 rfl ag25 sz25 rfl rfl rfl) ?_
      | refine TA.take 2 rfl rfl rfl (Nat.le_of_ble_eq_true rfl) (by kernel_rfl) (by kernel_rfl) (by kernel_rfl) (listed' := #[true, false, true, false, false, false, false, false]) (by kernel_rfl) (by repeat (first | exact ro_refl | exact ro_pre | refine ro_tail ?_ | refine ro_app ?_)) (Val.loadAgg 4 rfl ag25 sz25 rfl rfl rfl) ?_
      | refine TA.take 2 rfl rfl rfl (Nat.le_of_ble_eq_true rfl) (by kernel_rfl) (by kernel_rfl) (by kernel_rfl) (listed' := #[true, false, true, false, false, false, false, false]) (by kernel_rfl) (by repeat (first | exact ro_refl | exact ro_pre | refine ro_tail ?_ | refine ro_app ?_)) (Val.loadAgg 5 rfl ag25 sz25 rfl rfl rfl) ?_
    refine TA.three 1 4 5 (by kernel_rfl) ?_ ?_ ?_
    · skip
      refine TO.does (listed' := #[true, true, true, false, false, false, false, false]) (some 21) rfl rfl rfl rfl (by kernel_rfl) (Does.callF go21 rfl (fit_fn p pl kd A n c _ hp hpl hkd hc)) ?_
      rintro _ _ ⟨fp, fl, fk, fn, rfl, hf, hfn, rfl⟩
      refine ⟨(by repeat (first | exact ro_refl | exact ro_pre | refine ro_tail ?_ | refine ro_app ?_)), ?_⟩
      refine TA.three 3 4 5 (by kernel_rfl) ?_ ?_ ?_
      · skip
        refine TO.does (listed' := #[true, true, true, true, false, false, false, false]) (some 23) rfl rfl rfl rfl (by kernel_rfl) (Does.callF go21 rfl (fit_fn p2 pl2 kd2 A2 n2 cap2 _ hp2 hpl2 hkd2 hc2)) ?_
        rintro _ _ ⟨gp, gl, gk, gn, rfl, hg, hgn, rfl⟩
        refine ⟨(by repeat (first | exact ro_refl | exact ro_pre | refine ro_tail ?_ | refine ro_app ?_)), ?_⟩
        refine TA.two 4 5 (by kernel_rfl) ?_ ?_
        · skip
          refine TO.does (listed' := #[true, true, true, true, true, false, false, false]) (some 9) rfl rfl rfl rfl (by kernel_rfl) (Does.alloc ze25 rfl) ?_
          rintro _ _ ⟨ba, rfl, rfl⟩
          refine ⟨(by repeat (first | exact ro_refl | exact ro_pre | refine ro_tail ?_ | refine ro_app ?_)), ?_⟩
          refine TA.one 5 (by kernel_rfl) ?_
          refine TO.does (listed' := #[true, true, true, true, true, true, false, false]) (some 10) rfl rfl rfl rfl (by kernel_rfl) (Does.alloc ze25 rfl) ?_
          rintro _ _ ⟨bb, rfl, rfl⟩
          refine ⟨(by repeat (first | exact ro_refl | exact ro_pre | refine ro_tail ?_ | refine ro_app ?_)), ?_⟩
          refine TA.one 6 (by kernel_rfl) ?_
          first
            | refine TO.does (listed' := #[true, true, true, true, true, true, true, false]) none rfl rfl rfl rfl (by kernel_rfl) (Does.store (i := 0) rfl rfl rfl sz25 rfl rfl (by first | decide | omega) rfl rfl) ?_
            | refine TO.does (listed' := #[true, true, true, true, true, true, true, false]) none rfl rfl rfl rfl (by kernel_rfl) (Does.store (i := 1) rfl rfl rfl sz25 rfl rfl (by first | decide | omega) rfl rfl) ?_
            | refine TO.does (listed' := #[true, true, true, true, true, true, true, false]) none rfl rfl rfl rfl (by kernel_rfl) (Does.store (i := 2) rfl rfl rfl sz25 rfl rfl (by first | decide | omega) rfl rfl) ?_
            | refine TO.does (listed' := #[true, true, true, true, true, true, true, false]) none rfl rfl rfl rfl (by kernel_rfl) (Does.store (i := 3) rfl rfl rfl sz25 rfl rfl (by first | decide | omega) rfl rfl) ?_
            | refine TO.does (listed' := #[true, true, true, true, true, true, true, false]) none rfl rfl rfl rfl (by kernel_rfl) (Does.store (i := 4) rfl rfl rfl sz25 rfl rfl (by first | decide | omega) rfl rfl) ?_
            | refine TO.does (listed' := #[true, true, true, true, true, true, true, false]) none rfl rfl rfl rfl (by kernel_rfl) (Does.store (i := 5) rfl rfl rfl sz25 rfl rfl (by first | decide | omega) rfl rfl) ?_
          rintro _ _ ⟨rfl, rfl⟩
          refine ⟨(by repeat (first | exact ro_refl | exact ro_pre | refine ro_tail ?_ | refine ro_app ?_)), ?_⟩
          refine TA.one 7 (by kernel_rfl) ?_
          first
            | refine TO.does (listed' := #[true, true, true, true, true, true, true, true]) none rfl rfl rfl rfl (by kernel_rfl) (Does.store (i := 0) rfl rfl rfl sz25 rfl rfl (by first | decide | omega) rfl rfl) ?_
            | refine TO.does (listed' := #[true, true, true, true, true, true, true, true]) none rfl rfl rfl rfl (by kernel_rfl) (Does.store (i := 1) rfl rfl rfl sz25 rfl rfl (by first | decide | omega) rfl rfl) ?_
            | refine TO.does (listed' := #[true, true, true, true, true, true, true, true]) none rfl rfl rfl rfl (by kernel_rfl) (Does.store (i := 2) rfl rfl rfl sz25 rfl rfl (by first | decide | omega) rfl rfl) ?_
            | refine TO.does (listed' := #[true, true, true, true, true, true, true, true]) none rfl rfl rfl rfl (by kernel_rfl) (Does.store (i := 3) rfl rfl rfl sz25 rfl rfl (by first | decide | omega) rfl rfl) ?_
            | refine TO.does (listed' := #[true, true, true, true, true, true, true, true]) none rfl rfl rfl rfl (by kernel_rfl) (Does.store (i := 4) rfl rfl rfl sz25 rfl rfl (by first | decide | omega) rfl rfl) ?_
            | refine TO.does (listed' := #[true, true, true, true, true, true, true, true]) none rfl rfl rfl rfl (by kernel_rfl) (Does.store (i := 5) rfl rfl rfl sz25 rfl rfl (by first | decide | omega) rfl rfl) ?_
          rintro _ _ ⟨rfl, rfl⟩
          refine ⟨(by repeat (first | exact ro_refl | exact ro_pre | refine ro_tail ?_ | refine ro_app ?_)), ?_⟩
          refine TA.done (by kernel_rfl) ?_
          refine AtX.join (ba, bb, (fp, fl, fk, fn), (gp, gl, gk, gn)) ?_ (Sub.cons rfl (Sub.cons rfl (Sub.cons rfl (Sub.cons rfl (Sub.nil _))))) (fun w h => by first | exact own_two w h | exact own_two' w h)
          exact ⟨⟨hf, hfn⟩, ⟨hg, hgn⟩⟩
        · skip
          refine TO.does (listed' := #[true, true, true, true, false, true, false, false]) (some 10) rfl rfl rfl rfl (by kernel_rfl) (Does.alloc ze25 rfl) ?_
          rintro _ _ ⟨bb, rfl, rfl⟩
          refine ⟨(by repeat (first | exact ro_refl | exact ro_pre | refine ro_tail ?_ | refine ro_app ?_)), ?_⟩
          refine TA.one 4 (by kernel_rfl) ?_
          refine TO.does (listed' := #[true, true, true, true, true, true, false, false]) (some 9) rfl rfl rfl rfl (by kernel_rfl) (Does.alloc ze25 rfl) ?_
          rintro _ _ ⟨ba, rfl, rfl⟩
          refine ⟨(by repeat (first | exact ro_refl | exact ro_pre | refine ro_tail ?_ | refine ro_app ?_)), ?_⟩
          refine TA.one 6 (by kernel_rfl) ?_
          first
            | refine TO.does (listed' := #[true, true, true, true, true, true, true, false]) none rfl rfl rfl rfl (by kernel_rfl) (Does.store (i := 0) rfl rfl rfl sz25 rfl rfl (by first | decide | omega) rfl rfl) ?_
            | refine TO.does (listed' := #[true, true, true, true, true, true, true, false]) none rfl rfl rfl rfl (by kernel_rfl) (Does.store (i := 1) rfl rfl rfl sz25 rfl rfl (by first | decide | omega) rfl rfl) ?_
            | refine TO.does (listed' := #[true, true, true, true, true, true, true, false]) none rfl rfl rfl rfl (by kernel_rfl) (Does.store (i := 2) rfl rfl rfl sz25 rfl rfl (by first | decide | omega) rfl rfl) ?_
            | refine TO.does (listed' := #[true, true, true, true, true, true, true, false]) none rfl rfl rfl rfl (by kernel_rfl) (Does.store (i := 3) rfl rfl rfl sz25 rfl rfl (by first | decide | omega) rfl rfl) ?_
            | refine TO.does (listed' := #[true, true, true, true, true, true, true, false]) none rfl rfl rfl rfl (by kernel_rfl) (Does.store (i := 4) rfl rfl rfl sz25 rfl rfl (by first | decide | omega) rfl rfl) ?_
            | refine TO.does (listed' := #[true, true, true, true, true, true, true, false]) none rfl rfl rfl rfl (by kernel_rfl) (Does.store (i := 5) rfl rfl rfl sz25 rfl rfl (by first | decide | omega) rfl rfl) ?_
          rintro _ _ ⟨rfl, rfl⟩
          refine ⟨(by repeat (first | exact ro_refl | exact ro_pre | refine ro_tail ?_ | refine ro_app ?_)), ?_⟩
          refine TA.one 7 (by kernel_rfl) ?_
          first
            | refine TO.does (listed' := #[true, true, true, true, true, true, true, true]) none rfl rfl rfl rfl (by kernel_rfl) (Does.store (i := 0) rfl rfl rfl sz25 rfl rfl (by first | decide | omega) rfl rfl) ?_
            | refine TO.does (listed' := #[true, true, true, true, true, true, true, true]) none rfl rfl rfl rfl (by kernel_rfl) (Does.store (i := 1) rfl rfl rfl sz25 rfl rfl (by first | decide | omega) rfl rfl) ?_
            | refine TO.does (listed' := #[true, true, true, true, true, true, true, true]) none rfl rfl rfl rfl (by kernel_rfl) (Does.store (i := 2) rfl rfl rfl sz25 rfl rfl (by first | decide | omega) rfl rfl) ?_
            | refine TO.does (listed' := #[true, true, true, true, true, true, true, true]) none rfl rfl rfl rfl (by kernel_rfl) (Does.store (i := 3) rfl rfl rfl sz25 rfl rfl (by first | decide | omega) rfl rfl) ?_
            | refine TO.does (listed' := #[true, true, true, true, true, true, true, true]) none rfl rfl rfl rfl (by kernel_rfl) (Does.store (i := 4) rfl rfl rfl sz25 rfl rfl (by first | decide | omega) rfl rfl) ?_
            | refine TO.does (listed' := #[true, true, true, true, true, true, true, true]) none rfl rfl rfl rfl (by kernel_rfl) (Does.store (i := 5) rfl rfl rfl sz25 rfl rfl (by first | decide | omega) rfl rfl) ?_
          rintro _ _ ⟨rfl, rfl⟩
          refine ⟨(by repeat (first | exact ro_refl | exact ro_pre | refine ro_tail ?_ | refine ro_app ?_)), ?_⟩
          refine TA.done (by kernel_rfl) ?_
          refine AtX.join (ba, bb, (fp, fl, fk, fn), (gp, gl, gk, gn)) ?_ (Sub.cons rfl (Sub.cons rfl (Sub.cons rfl (Sub.cons rfl (Sub.nil _))))) (fun w h => by first | exact own_two w h | exact own_two' w h)
          exact ⟨⟨hf, hfn⟩, ⟨hg, hgn⟩⟩
      · skip
        refine TO.does (listed' := #[true, true, true, false, true, false, false, false]) (some 9) rfl rfl rfl rfl (by kernel_rfl) (Does.alloc ze25 rfl) ?_
        rintro _ _ ⟨ba, rfl, rfl⟩
        refine ⟨(by repeat (first | exact ro_refl | exact ro_pre | refine ro_tail ?_ | refine ro_app ?_)), ?_⟩
        refine TA.two 3 5 (by kernel_rfl) ?_ ?_
        · skip
          refine TO.does (listed' := #[true, true, true, true, true, false, false, false]) (some 23) rfl rfl rfl rfl (by kernel_rfl) (Does.callF go21 rfl (fit_fn p2 pl2 kd2 A2 n2 cap2 _ hp2 hpl2 hkd2 hc2)) ?_
          rintro _ _ ⟨gp, gl, gk, gn, rfl, hg, hgn, rfl⟩
          refine ⟨(by repeat (first | exact ro_refl | exact ro_pre | refine ro_tail ?_ | refine ro_app ?_)), ?_⟩
          refine TA.one 5 (by kernel_rfl) ?_
          refine TO.does (listed' := #[true, true, true, true, true, true, false, false]) (some 10) rfl rfl rfl rfl (by kernel_rfl) (Does.alloc ze25 rfl) ?_
          rintro _ _ ⟨bb, rfl, rfl⟩
          refine ⟨(by repeat (first | exact ro_refl | exact ro_pre | refine ro_tail ?_ | refine ro_app ?_)), ?_⟩
          refine TA.one 6 (by kernel_rfl) ?_
          first
            | refine TO.does (listed' := #[true, true, true, true, true, true, true, false]) none rfl rfl rfl rfl (by kernel_rfl) (Does.store (i := 0) rfl rfl rfl sz25 rfl rfl (by first | decide | omega) rfl rfl) ?_
            | refine TO.does (listed' := #[true, true, true, true, true, true, true, false]) none rfl rfl rfl rfl (by kernel_rfl) (Does.store (i := 1) rfl rfl rfl sz25 rfl rfl (by first | decide | omega) rfl rfl) ?_
            | refine TO.does (listed' := #[true, true, true, true, true, true, true, false]) none rfl rfl rfl rfl (by kernel_rfl) (Does.store (i := 2) rfl rfl rfl sz25 rfl rfl (by first | decide | omega) rfl rfl) ?_
            | refine TO.does (listed' := #[true, true, true, true, true, true, true, false]) none rfl rfl rfl rfl (by kernel_rfl) (Does.store (i := 3) rfl rfl rfl sz25 rfl rfl (by first | decide | omega) rfl rfl) ?_
            | refine TO.does (listed' := #[true, true, true, true, true, true, true, false]) none rfl rfl rfl rfl (by kernel_rfl) (Does.store (i := 4) rfl rfl rfl sz25 rfl rfl (by first | decide | omega) rfl rfl) ?_
            | refine TO.does (listed' := #[true, true, true, true, true, true, true, false]) none rfl rfl rfl rfl (by kernel_rfl) (Does.store (i := 5) rfl rfl rfl sz25 rfl rfl (by first | decide | omega) rfl rfl) ?_
          rintro _ _ ⟨rfl, rfl⟩
          refine ⟨(by repeat (first | exact ro_refl | exact ro_pre | refine ro_tail ?_ | refine ro_app ?_)), ?_⟩
          refine TA.one 7 (by kernel_rfl) ?_
          first
            | refine TO.does (listed' := #[true, true, true, true, true, true, true, true]) none rfl rfl rfl rfl (by kernel_rfl) (Does.store (i := 0) rfl rfl rfl sz25 rfl rfl (by first | decide | omega) rfl rfl) ?_
            | refine TO.does (listed' := #[true, true, true, true, true, true, true, true]) none rfl rfl rfl rfl (by kernel_rfl) (Does.store (i := 1) rfl rfl rfl sz25 rfl rfl (by first | decide | omega) rfl rfl) ?_
            | refine TO.does (listed' := #[true, true, true, true, true, true, true, true]) none rfl rfl rfl rfl (by kernel_rfl) (Does.store (i := 2) rfl rfl rfl sz25 rfl rfl (by first | decide | omega) rfl rfl) ?_
            | refine TO.does (listed' := #[true, true, true, true, true, true, true, true]) none rfl rfl rfl rfl (by kernel_rfl) (Does.store (i := 3) rfl rfl rfl sz25 rfl rfl (by first | decide | omega) rfl rfl) ?_
            | refine TO.does (listed' := #[true, true, true, true, true, true, true, true]) none rfl rfl rfl rfl (by kernel_rfl) (Does.store (i := 4) rfl rfl rfl sz25 rfl rfl (by first | decide | omega) rfl rfl) ?_
            | refine TO.does (listed' := #[true, true, true, true, true, true, true, true]) none rfl rfl rfl rfl (by kernel_rfl) (Does.store (i := 5) rfl rfl rfl sz25 rfl rfl (by first | decide | omega) rfl rfl) ?_
          rintro _ _ ⟨rfl, rfl⟩
          refine ⟨(by repeat (first | exact ro_refl | exact ro_pre | refine ro_tail ?_ | refine ro_app ?_)), ?_⟩
          refine TA.done (by kernel_rfl) ?_
          refine AtX.join (ba, bb, (fp, fl, fk, fn), (gp, gl, gk, gn)) ?_ (Sub.cons rfl (Sub.cons rfl (Sub.cons rfl (Sub.cons rfl (Sub.nil _))))) (fun w h => by first | exact own_two w h | exact own_two' w h)
          exact ⟨⟨hf, hfn⟩, ⟨hg, hgn⟩⟩
        · skip
          refine TO.does (listed' := #[true, true, true, false, true, true, false, false]) (some 10) rfl rfl rfl rfl (by kernel_rfl) (Does.alloc ze25 rfl) ?_
          rintro _ _ ⟨bb, rfl, rfl⟩
          refine ⟨(by repeat (first | exact ro_refl | exact ro_pre | refine ro_tail ?_ | refine ro_app ?_)), ?_⟩
          refine TA.one 3 (by kernel_rfl) ?_
          refine TO.does (listed' := #[true, true, true, true, true, true, false, false]) (some 23) rfl rfl rfl rfl (by kernel_rfl) (Does.callF go21 rfl (fit_fn p2 pl2 kd2 A2 n2 cap2 _ hp2 hpl2 hkd2 hc2)) ?_
          rintro _ _ ⟨gp, gl, gk, gn, rfl, hg, hgn, rfl⟩
          refine ⟨(by repeat (first | exact ro_refl | exact ro_pre | refine ro_tail ?_ | refine ro_app ?_)), ?_⟩
          refine TA.one 6 (by kernel_rfl) ?_
          first
            | refine TO.does (listed' := #[true, true, true, true, true, true, true, false]) none rfl rfl rfl rfl (by kernel_rfl) (Does.store (i := 0) rfl rfl rfl sz25 rfl rfl (by first | decide | omega) rfl rfl) ?_
            | refine TO.does (listed' := #[true, true, true, true, true, true, true, false]) none rfl rfl rfl rfl (by kernel_rfl) (Does.store (i := 1) rfl rfl rfl sz25 rfl rfl (by first | decide | omega) rfl rfl) ?_
            | refine TO.does (listed' := #[true, true, true, true, true, true, true, false]) none rfl rfl rfl rfl (by kernel_rfl) (Does.store (i := 2) rfl rfl rfl sz25 rfl rfl (by first | decide | omega) rfl rfl) ?_
            | refine TO.does (listed' := #[true, true, true, true, true, true, true, false]) none rfl rfl rfl rfl (by kernel_rfl) (Does.store (i := 3) rfl rfl rfl sz25 rfl rfl (by first | decide | omega) rfl rfl) ?_
            | refine TO.does (listed' := #[true, true, true, true, true, true, true, false]) none rfl rfl rfl rfl (by kernel_rfl) (Does.store (i := 4) rfl rfl rfl sz25 rfl rfl (by first | decide | omega) rfl rfl) ?_
            | refine TO.does (listed' := #[true, true, true, true, true, true, true, false]) none rfl rfl rfl rfl (by kernel_rfl) (Does.store (i := 5) rfl rfl rfl sz25 rfl rfl (by first | decide | omega) rfl rfl) ?_
          rintro _ _ ⟨rfl, rfl⟩
          refine ⟨(by repeat (first | exact ro_refl | exact ro_pre | refine ro_tail ?_ | refine ro_app ?_)), ?_⟩
          refine TA.one 7 (by kernel_rfl) ?_
          first
            | refine TO.does (listed' := #[true, true, true, true, true, true, true, true]) none rfl rfl rfl rfl (by kernel_rfl) (Does.store (i := 0) rfl rfl rfl sz25 rfl rfl (by first | decide | omega) rfl rfl) ?_
            | refine TO.does (listed' := #[true, true, true, true, true, true, true, true]) none rfl rfl rfl rfl (by kernel_rfl) (Does.store (i := 1) rfl rfl rfl sz25 rfl rfl (by first | decide | omega) rfl rfl) ?_
            | refine TO.does (listed' := #[true, true, true, true, true, true, true, true]) none rfl rfl rfl rfl (by kernel_rfl) (Does.store (i := 2) rfl rfl rfl sz25 rfl rfl (by first | decide | omega) rfl rfl) ?_
            | refine TO.does (listed' := #[true, true, true, true, true, true, true, true]) none rfl rfl rfl rfl (by kernel_rfl) (Does.store (i := 3) rfl rfl rfl sz25 rfl rfl (by first | decide | omega) rfl rfl) ?_
            | refine TO.does (listed' := #[true, true, true, true, true, true, true, true]) none rfl rfl rfl rfl (by kernel_rfl) (Does.store (i := 4) rfl rfl rfl sz25 rfl rfl (by first | decide | omega) rfl rfl) ?_
            | refine TO.does (listed' := #[true, true, true, true, true, true, true, true]) none rfl rfl rfl rfl (by kernel_rfl) (Does.store (i := 5) rfl rfl rfl sz25 rfl rfl (by first | decide | omega) rfl rfl) ?_
          rintro _ _ ⟨rfl, rfl⟩
          refine ⟨(by repeat (first | exact ro_refl | exact ro_pre | refine ro_tail ?_ | refine ro_app ?_)), ?_⟩
          refine TA.done (by kernel_rfl) ?_
          refine AtX.join (ba, bb, (fp, fl, fk, fn), (gp, gl, gk, gn)) ?_ (Sub.cons rfl (Sub.cons rfl (Sub.cons rfl (Sub.cons rfl (Sub.nil _))))) (fun w h => by first | exact own_two w h | exact own_two' w h)
          exact ⟨⟨hf, hfn⟩, ⟨hg, hgn⟩⟩
      · skip
        refine TO.does (listed' := #[true, true, true, false, false, true, false, false]) (some 10) rfl rfl rfl rfl (by kernel_rfl) (Does.alloc ze25 rfl) ?_
        rintro _ _ ⟨bb, rfl, rfl⟩
        refine ⟨(by repeat (first | exact ro_refl | exact ro_pre | refine ro_tail ?_ | refine ro_app ?_)), ?_⟩
        refine TA.two 3 4 (by kernel_rfl) ?_ ?_
        · skip
          refine TO.does (listed' := #[true, true, true, true, false, true, false, false]) (some 23) rfl rfl rfl rfl (by kernel_rfl) (Does.callF go21 rfl (fit_fn p2 pl2 kd2 A2 n2 cap2 _ hp2 hpl2 hkd2 hc2)) ?_
          rintro _ _ ⟨gp, gl, gk, gn, rfl, hg, hgn, rfl⟩
          refine ⟨(by repeat (first | exact ro_refl | exact ro_pre | refine ro_tail ?_ | refine ro_app ?_)), ?_⟩
          refine TA.one 4 (by kernel_rfl) ?_
          refine TO.does (listed' := #[true, true, true, true, true, true, false, false]) (some 9) rfl rfl rfl rfl (by kernel_rfl) (Does.alloc ze25 rfl) ?_
          rintro _ _ ⟨ba, rfl, rfl⟩
          refine ⟨(by repeat (first | exact ro_refl | exact ro_pre | refine ro_tail ?_ | refine ro_app ?_)), ?_⟩
          refine TA.one 6 (by kernel_rfl) ?_
          first
            | refine TO.does (listed' := #[true, true, true, true, true, true, true, false]) none rfl rfl rfl rfl (by kernel_rfl) (Does.store (i := 0) rfl rfl rfl sz25 rfl rfl (by first | decide | omega) rfl rfl) ?_
            | refine TO.does (listed' := #[true, true, true, true, true, true, true, false]) none rfl rfl rfl rfl (by kernel_rfl) (Does.store (i := 1) rfl rfl rfl sz25 rfl rfl (by first | decide | omega) rfl rfl) ?_
            | refine TO.does (listed' := #[true, true, true, true, true, true, true, false]) none rfl rfl rfl rfl (by kernel_rfl) (Does.store (i := 2) rfl rfl rfl sz25 rfl rfl (by first | decide | omega) rfl rfl) ?_
            | refine TO.does (listed' := #[true, true, true, true, true, true, true, false]) none rfl rfl rfl rfl (by kernel_rfl) (Does.store (i := 3) rfl rfl rfl sz25 rfl rfl (by first | decide | omega) rfl rfl) ?_
            | refine TO.does (listed' := #[true, true, true, true, true, true, true, false]) none rfl rfl rfl rfl (by kernel_rfl) (Does.store (i := 4) rfl rfl rfl sz25 rfl rfl (by first | decide | omega) rfl rfl) ?_
            | refine TO.does (listed' := #[true, true, true, true, true, true, true, false]) none rfl rfl rfl rfl (by kernel_rfl) (Does.store (i := 5) rfl rfl rfl sz25 rfl rfl (by first | decide | omega) rfl rfl) ?_
          rintro _ _ ⟨rfl, rfl⟩
          refine ⟨(by repeat (first | exact ro_refl | exact ro_pre | refine ro_tail ?_ | refine ro_app ?_)), ?_⟩
          refine TA.one 7 (by kernel_rfl) ?_
          first
            | refine TO.does (listed' := #[true, true, true, true, true, true, true, true]) none rfl rfl rfl rfl (by kernel_rfl) (Does.store (i := 0) rfl rfl rfl sz25 rfl rfl (by first | decide | omega) rfl rfl) ?_
            | refine TO.does (listed' := #[true, true, true, true, true, true, true, true]) none rfl rfl rfl rfl (by kernel_rfl) (Does.store (i := 1) rfl rfl rfl sz25 rfl rfl (by first | decide | omega) rfl rfl) ?_
            | refine TO.does (listed' := #[true, true, true, true, true, true, true, true]) none rfl rfl rfl rfl (by kernel_rfl) (Does.store (i := 2) rfl rfl rfl sz25 rfl rfl (by first | decide | omega) rfl rfl) ?_
            | refine TO.does (listed' := #[true, true, true, true, true, true, true, true]) none rfl rfl rfl rfl (by kernel_rfl) (Does.store (i := 3) rfl rfl rfl sz25 rfl rfl (by first | decide | omega) rfl rfl) ?_
            | refine TO.does (listed' := #[true, true, true, true, true, true, true, true]) none rfl rfl rfl rfl (by kernel_rfl) (Does.store (i := 4) rfl rfl rfl sz25 rfl rfl (by first | decide | omega) rfl rfl) ?_
            | refine TO.does (listed' := #[true, true, true, true, true, true, true, true]) none rfl rfl rfl rfl (by kernel_rfl) (Does.store (i := 5) rfl rfl rfl sz25 rfl rfl (by first | decide | omega) rfl rfl) ?_
          rintro _ _ ⟨rfl, rfl⟩
          refine ⟨(by repeat (first | exact ro_refl | exact ro_pre | refine ro_tail ?_ | refine ro_app ?_)), ?_⟩
          refine TA.done (by kernel_rfl) ?_
          refine AtX.join (ba, bb, (fp, fl, fk, fn), (gp, gl, gk, gn)) ?_ (Sub.cons rfl (Sub.cons rfl (Sub.cons rfl (Sub.cons rfl (Sub.nil _))))) (fun w h => by first | exact own_two w h | exact own_two' w h)
          exact ⟨⟨hf, hfn⟩, ⟨hg, hgn⟩⟩
        · skip
          refine TO.does (listed' := #[true, true, true, false, true, true, false, false]) (some 9) rfl rfl rfl rfl (by kernel_rfl) (Does.alloc ze25 rfl) ?_
          rintro _ _ ⟨ba, rfl, rfl⟩
          refine ⟨(by repeat (first | exact ro_refl | exact ro_pre | refine ro_tail ?_ | refine ro_app ?_)), ?_⟩
          refine TA.one 3 (by kernel_rfl) ?_
          refine TO.does (listed' := #[true, true, true, true, true, true, false, false]) (some 23) rfl rfl rfl rfl (by kernel_rfl) (Does.callF go21 rfl (fit_fn p2 pl2 kd2 A2 n2 cap2 _ hp2 hpl2 hkd2 hc2)) ?_
          rintro _ _ ⟨gp, gl, gk, gn, rfl, hg, hgn, rfl⟩
          refine ⟨(by repeat (first | exact ro_refl | exact ro_pre | refine ro_tail ?_ | refine ro_app ?_)), ?_⟩
          refine TA.one 6 (by kernel_rfl) ?_
          first
            | refine TO.does (listed' := #[true, true, true, true, true, true, true, false]) none rfl rfl rfl rfl (by kernel_rfl) (Does.store (i := 0) rfl rfl rfl sz25 rfl rfl (by first | decide | omega) rfl rfl) ?_
            | refine TO.does (listed' := #[true, true, true, true, true, true, true, false]) none rfl rfl rfl rfl (by kernel_rfl) (Does.store (i := 1) rfl rfl rfl sz25 rfl rfl (by first | decide | omega) rfl rfl) ?_
            | refine TO.does (listed' := #[true, true, true, true, true, true, true, false]) none rfl rfl rfl rfl (by kernel_rfl) (Does.store (i := 2) rfl rfl rfl sz25 rfl rfl (by first | decide | omega) rfl rfl) ?_
            | refine TO.does (listed' := #[true, true, true, true, true, true, true, false]) none rfl rfl rfl rfl (by kernel_rfl) (Does.store (i := 3) rfl rfl rfl sz25 rfl rfl (by first | decide | omega) rfl rfl) ?_
            | refine TO.does (listed' := #[true, true, true, true, true, true, true, false]) none rfl rfl rfl rfl (by kernel_rfl) (Does.store (i := 4) rfl rfl rfl sz25 rfl rfl (by first | decide | omega) rfl rfl) ?_
            | refine TO.does (listed' := #[true, true, true, true, true, true, true, false]) none rfl rfl rfl rfl (by kernel_rfl) (Does.store (i := 5) rfl rfl rfl sz25 rfl rfl (by first | decide | omega) rfl rfl) ?_
          rintro _ _ ⟨rfl, rfl⟩
          refine ⟨(by repeat (first | exact ro_refl | exact ro_pre | refine ro_tail ?_ | refine ro_app ?_)), ?_⟩
          refine TA.one 7 (by kernel_rfl) ?_
          first
            | refine TO.does (listed' := #[true, true, true, true, true, true, true, true]) none rfl rfl rfl rfl (by kernel_rfl) (Does.store (i := 0) rfl rfl rfl sz25 rfl rfl (by first | decide | omega) rfl rfl) ?_
            | refine TO.does (listed' := #[true, true, true, true, true, true, true, true]) none rfl rfl rfl rfl (by kernel_rfl) (Does.store (i := 1) rfl rfl rfl sz25 rfl rfl (by first | decide | omega) rfl rfl) ?_
            | refine TO.does (listed' := #[true, true, true, true, true, true, true, true]) none rfl rfl rfl rfl (by kernel_rfl) (Does.store (i := 2) rfl rfl rfl sz25 rfl rfl (by first | decide | omega) rfl rfl) ?_
            | refine TO.does (listed' := #[true, true, true, true, true, true, true, true]) none rfl rfl rfl rfl (by kernel_rfl) (Does.store (i := 3) rfl rfl rfl sz25 rfl rfl (by first | decide | omega) rfl rfl) ?_
            | refine TO.does (listed' := #[true, true, true, true, true, true, true, true]) none rfl rfl rfl rfl (by kernel_rfl) (Does.store (i := 4) rfl rfl rfl sz25 rfl rfl (by first | decide | omega) rfl rfl) ?_
            | refine TO.does (listed' := #[true, true, true, true, true, true, true, true]) none rfl rfl rfl rfl (by kernel_rfl) (Does.store (i := 5) rfl rfl rfl sz25 rfl rfl (by first | decide | omega) rfl rfl) ?_
          rintro _ _ ⟨rfl, rfl⟩
          refine ⟨(by repeat (first | exact ro_refl | exact ro_pre | refine ro_tail ?_ | refine ro_app ?_)), ?_⟩
          refine TA.done (by kernel_rfl) ?_
          refine AtX.join (ba, bb, (fp, fl, fk, fn), (gp, gl, gk, gn)) ?_ (Sub.cons rfl (Sub.cons rfl (Sub.cons rfl (Sub.cons rfl (Sub.nil _))))) (fun w h => by first | exact own_two w h | exact own_two' w h)
          exact ⟨⟨hf, hfn⟩, ⟨hg, hgn⟩⟩
    · skip
      refine TO.does (listed' := #[true, false, true, false, true, false, false, false]) (some 9) rfl rfl rfl rfl (by kernel_rfl) (Does.alloc ze25 rfl) ?_
      rintro _ _ ⟨ba, rfl, rfl⟩
      refine ⟨(by repeat (first | exact ro_refl | exact ro_pre | refine ro_tail ?_ | refine ro_app ?_)), ?_⟩
      refine TA.two 1 5 (by kernel_rfl) ?_ ?_
      · skip
        refine TO.does (listed' := #[true, true, true, false, true, false, false, false]) (some 21) rfl rfl rfl rfl (by kernel_rfl) (Does.callF go21 rfl (fit_fn p pl kd A n c _ hp hpl hkd hc)) ?_
        rintro _ _ ⟨fp, fl, fk, fn, rfl, hf, hfn, rfl⟩
        refine ⟨(by repeat (first | exact ro_refl | exact ro_pre | refine ro_tail ?_ | refine ro_app ?_)), ?_⟩
        refine TA.two 3 5 (by kernel_rfl) ?_ ?_
        · skip
          refine TO.does (listed' := #[true, true, true, true, true, false, false, false]) (some 23) rfl rfl rfl rfl (by kernel_rfl) (Does.callF go21 rfl (fit_fn p2 pl2 kd2 A2 n2 cap2 _ hp2 hpl2 hkd2 hc2)) ?_
          rintro _ _ ⟨gp, gl, gk, gn, rfl, hg, hgn, rfl⟩
          refine ⟨(by repeat (first | exact ro_refl | exact ro_pre | refine ro_tail ?_ | refine ro_app ?_)), ?_⟩
          refine TA.one 5 (by kernel_rfl) ?_
          refine TO.does (listed' := #[true, true, true, true, true, true, false, false]) (some 10) rfl rfl rfl rfl (by kernel_rfl) (Does.alloc ze25 rfl) ?_
          rintro _ _ ⟨bb, rfl, rfl⟩
          refine ⟨(by repeat (first | exact ro_refl | exact ro_pre | refine ro_tail ?_ | refine ro_app ?_)), ?_⟩
          refine TA.one 6 (by kernel_rfl) ?_
          first
            | refine TO.does (listed' := #[true, true, true, true, true, true, true, false]) none rfl rfl rfl rfl (by kernel_rfl) (Does.store (i := 0) rfl rfl rfl sz25 rfl rfl (by first | decide | omega) rfl rfl) ?_
            | refine TO.does (listed' := #[true, true, true, true, true, true, true, false]) none rfl rfl rfl rfl (by kernel_rfl) (Does.store (i := 1) rfl rfl rfl sz25 rfl rfl (by first | decide | omega) rfl rfl) ?_
            | refine TO.does (listed' := #[true, true, true, true, true, true, true, false]) none rfl rfl rfl rfl (by kernel_rfl) (Does.store (i := 2) rfl rfl rfl sz25 rfl rfl (by first | decide | omega) rfl rfl) ?_
            | refine TO.does (listed' := #[true, true, true, true, true, true, true, false]) none rfl rfl rfl rfl (by kernel_rfl) (Does.store (i := 3) rfl rfl rfl sz25 rfl rfl (by first | decide | omega) rfl rfl) ?_
            | refine TO.does (listed' := #[true, true, true, true, true, true, true, false]) none rfl rfl rfl rfl (by kernel_rfl) (Does.store (i := 4) rfl rfl rfl sz25 rfl rfl (by first | decide | omega) rfl rfl) ?_
            | refine TO.does (listed' := #[true, true, true, true, true, true, true, false]) none rfl rfl rfl rfl (by kernel_rfl) (Does.store (i := 5) rfl rfl rfl sz25 rfl rfl (by first | decide | omega) rfl rfl) ?_
          rintro _ _ ⟨rfl, rfl⟩
          refine ⟨(by repeat (first | exact ro_refl | exact ro_pre | refine ro_tail ?_ | refine ro_app ?_)), ?_⟩
          refine TA.one 7 (by kernel_rfl) ?_
          first
            | refine TO.does (listed' := #[true, true, true, true, true, true, true, true]) none rfl rfl rfl rfl (by kernel_rfl) (Does.store (i := 0) rfl rfl rfl sz25 rfl rfl (by first | decide | omega) rfl rfl) ?_
            | refine TO.does (listed' := #[true, true, true, true, true, true, true, true]) none rfl rfl rfl rfl (by kernel_rfl) (Does.store (i := 1) rfl rfl rfl sz25 rfl rfl (by first | decide | omega) rfl rfl) ?_
            | refine TO.does (listed' := #[true, true, true, true, true, true, true, true]) none rfl rfl rfl rfl (by kernel_rfl) (Does.store (i := 2) rfl rfl rfl sz25 rfl rfl (by first | decide | omega) rfl rfl) ?_
            | refine TO.does (listed' := #[true, true, true, true, true, true, true, true]) none rfl rfl rfl rfl (by kernel_rfl) (Does.store (i := 3) rfl rfl rfl sz25 rfl rfl (by first | decide | omega) rfl rfl) ?_
            | refine TO.does (listed' := #[true, true, true, true, true, true, true, true]) none rfl rfl rfl rfl (by kernel_rfl) (Does.store (i := 4) rfl rfl rfl sz25 rfl rfl (by first | decide | omega) rfl rfl) ?_
            | refine TO.does (listed' := #[true, true, true, true, true, true, true, true]) none rfl rfl rfl rfl (by kernel_rfl) (Does.store (i := 5) rfl rfl rfl sz25 rfl rfl (by first | decide | omega) rfl rfl) ?_
          rintro _ _ ⟨rfl, rfl⟩
          refine ⟨(by repeat (first | exact ro_refl | exact ro_pre | refine ro_tail ?_ | refine ro_app ?_)), ?_⟩
          refine TA.done (by kernel_rfl) ?_
          refine AtX.join (ba, bb, (fp, fl, fk, fn), (gp, gl, gk, gn)) ?_ (Sub.cons rfl (Sub.cons rfl (Sub.cons rfl (Sub.cons rfl (Sub.nil _))))) (fun w h => by first | exact own_two w h | exact own_two' w h)
          exact ⟨⟨hf, hfn⟩, ⟨hg, hgn⟩⟩
        · skip
          refine TO.does (listed' := #[true, true, true, false, true, true, false, false]) (some 10) rfl rfl rfl rfl (by kernel_rfl) (Does.alloc ze25 rfl) ?_
          rintro _ _ ⟨bb, rfl, rfl⟩
          refine ⟨(by repeat (first | exact ro_refl | exact ro_pre | refine ro_tail ?_ | refine ro_app ?_)), ?_⟩
          refine TA.one 3 (by kernel_rfl) ?_
          refine TO.does (listed' := #[true, true, true, true, true, true, false, false]) (some 23) rfl rfl rfl rfl (by kernel_rfl) (Does.callF go21 rfl (fit_fn p2 pl2 kd2 A2 n2 cap2 _ hp2 hpl2 hkd2 hc2)) ?_
          rintro _ _ ⟨gp, gl, gk, gn, rfl, hg, hgn, rfl⟩
          refine ⟨(by repeat (first | exact ro_refl | exact ro_pre | refine ro_tail ?_ | refine ro_app ?_)), ?_⟩
          refine TA.one 6 (by kernel_rfl) ?_
          first
            | refine TO.does (listed' := #[true, true, true, true, true, true, true, false]) none rfl rfl rfl rfl (by kernel_rfl) (Does.store (i := 0) rfl rfl rfl sz25 rfl rfl (by first | decide | omega) rfl rfl) ?_
            | refine TO.does (listed' := #[true, true, true, true, true, true, true, false]) none rfl rfl rfl rfl (by kernel_rfl) (Does.store (i := 1) rfl rfl rfl sz25 rfl rfl (by first | decide | omega) rfl rfl) ?_
            | refine TO.does (listed' := #[true, true, true, true, true, true, true, false]) none rfl rfl rfl rfl (by kernel_rfl) (Does.store (i := 2) rfl rfl rfl sz25 rfl rfl (by first | decide | omega) rfl rfl) ?_
            | refine TO.does (listed' := #[true, true, true, true, true, true, true, false]) none rfl rfl rfl rfl (by kernel_rfl) (Does.store (i := 3) rfl rfl rfl sz25 rfl rfl (by first | decide | omega) rfl rfl) ?_
            | refine TO.does (listed' := #[true, true, true, true, true, true, true, false]) none rfl rfl rfl rfl (by kernel_rfl) (Does.store (i := 4) rfl rfl rfl sz25 rfl rfl (by first | decide | omega) rfl rfl) ?_
            | refine TO.does (listed' := #[true, true, true, true, true, true, true, false]) none rfl rfl rfl rfl (by kernel_rfl) (Does.store (i := 5) rfl rfl rfl sz25 rfl rfl (by first | decide | omega) rfl rfl) ?_
          rintro _ _ ⟨rfl, rfl⟩
          refine ⟨(by repeat (first | exact ro_refl | exact ro_pre | refine ro_tail ?_ | refine ro_app ?_)), ?_⟩
          refine TA.one 7 (by kernel_rfl) ?_
          first
            | refine TO.does (listed' := #[true, true, true, true, true, true, true, true]) none rfl rfl rfl rfl (by kernel_rfl) (Does.store (i := 0) rfl rfl rfl sz25 rfl rfl (by first | decide | omega) rfl rfl) ?_
            | refine TO.does (listed' := #[true, true, true, true, true, true, true, true]) none rfl rfl rfl rfl (by kernel_rfl) (Does.store (i := 1) rfl rfl rfl sz25 rfl rfl (by first | decide | omega) rfl rfl) ?_
            | refine TO.does (listed' := #[true, true, true, true, true, true, true, true]) none rfl rfl rfl rfl (by kernel_rfl) (Does.store (i := 2) rfl rfl rfl sz25 rfl rfl (by first | decide | omega) rfl rfl) ?_
            | refine TO.does (listed' := #[true, true, true, true, true, true, true, true]) none rfl rfl rfl rfl (by kernel_rfl) (Does.store (i := 3) rfl rfl rfl sz25 rfl rfl (by first | decide | omega) rfl rfl) ?_
            | refine TO.does (listed' := #[true, true, true, true, true, true, true, true]) none rfl rfl rfl rfl (by kernel_rfl) (Does.store (i := 4) rfl rfl rfl sz25 rfl rfl (by first | decide | omega) rfl rfl) ?_
            | refine TO.does (listed' := #[true, true, true, true, true, true, true, true]) none rfl rfl rfl rfl (by kernel_rfl) (Does.store (i := 5) rfl rfl rfl sz25 rfl rfl (by first | decide | omega) rfl rfl) ?_
          rintro _ _ ⟨rfl, rfl⟩
          refine ⟨(by repeat (first | exact ro_refl | exact ro_pre | refine ro_tail ?_ | refine ro_app ?_)), ?_⟩
          refine TA.done (by kernel_rfl) ?_
          refine AtX.join (ba, bb, (fp, fl, fk, fn), (gp, gl, gk, gn)) ?_ (Sub.cons rfl (Sub.cons rfl (Sub.cons rfl (Sub.cons rfl (Sub.nil _))))) (fun w h => by first | exact own_two w h | exact own_two' w h)
          exact ⟨⟨hf, hfn⟩, ⟨hg, hgn⟩⟩
      · skip
        refine TO.does (listed' := #[true, false, true, false, true, true, false, false]) (some 10) rfl rfl rfl rfl (by kernel_rfl) (Does.alloc ze25 rfl) ?_
        rintro _ _ ⟨bb, rfl, rfl⟩
        refine ⟨(by repeat (first | exact ro_refl | exact ro_pre | refine ro_tail ?_ | refine ro_app ?_)), ?_⟩
        refine TA.one 1 (by kernel_rfl) ?_
        refine TO.does (listed' := #[true, true, true, false, true, true, false, false]) (some 21) rfl rfl rfl rfl (by kernel_rfl) (Does.callF go21 rfl (fit_fn p pl kd A n c _ hp hpl hkd hc)) ?_
        rintro _ _ ⟨fp, fl, fk, fn, rfl, hf, hfn, rfl⟩
        refine ⟨(by repeat (first | exact ro_refl | exact ro_pre | refine ro_tail ?_ | refine ro_app ?_)), ?_⟩
        refine TA.one 3 (by kernel_rfl) ?_
        refine TO.does (listed' := #[true, true, true, true, true, true, false, false]) (some 23) rfl rfl rfl rfl (by kernel_rfl) (Does.callF go21 rfl (fit_fn p2 pl2 kd2 A2 n2 cap2 _ hp2 hpl2 hkd2 hc2)) ?_
        rintro _ _ ⟨gp, gl, gk, gn, rfl, hg, hgn, rfl⟩
        refine ⟨(by repeat (first | exact ro_refl | exact ro_pre | refine ro_tail ?_ | refine ro_app ?_)), ?_⟩
        refine TA.one 6 (by kernel_rfl) ?_
        first
          | refine TO.does (listed' := #[true, true, true, true, true, true, true, false]) none rfl rfl rfl rfl (by kernel_rfl) (Does.store (i := 0) rfl rfl rfl sz25 rfl rfl (by first | decide | omega) rfl rfl) ?_
          | refine TO.does (listed' := #[true, true, true, true, true, true, true, false]) none rfl rfl rfl rfl (by kernel_rfl) (Does.store (i := 1) rfl rfl rfl sz25 rfl rfl (by first | decide | omega) rfl rfl) ?_
          | refine TO.does (listed' := #[true, true, true, true, true, true, true, false]) none rfl rfl rfl rfl (by kernel_rfl) (Does.store (i := 2) rfl rfl rfl sz25 rfl rfl (by first | decide | omega) rfl rfl) ?_
          | refine TO.does (listed' := #[true, true, true, true, true, true, true, false]) none rfl rfl rfl rfl (by kernel_rfl) (Does.store (i := 3) rfl rfl rfl sz25 rfl rfl (by first | decide | omega) rfl rfl) ?_
          | refine TO.does (listed' := #[true, true, true, true, true, true, true, false]) none rfl rfl rfl rfl (by kernel_rfl) (Does.store (i := 4) rfl rfl rfl sz25 rfl rfl (by first | decide | omega) rfl rfl) ?_
          | refine TO.does (listed' := #[true, true, true, true, true, true, true, false]) none rfl rfl rfl rfl (by kernel_rfl) (Does.store (i := 5) rfl rfl rfl sz25 rfl rfl (by first | decide | omega) rfl rfl) ?_
        rintro _ _ ⟨rfl, rfl⟩
        refine ⟨(by repeat (first | exact ro_refl | exact ro_pre | refine ro_tail ?_ | refine ro_app ?_)), ?_⟩
        refine TA.one 7 (by kernel_rfl) ?_
        first
          | refine TO.does (listed' := #[true, true, true, true, true, true, true, true]) none rfl rfl rfl rfl (by kernel_rfl) (Does.store (i := 0) rfl rfl rfl sz25 rfl rfl (by first | decide | omega) rfl rfl) ?_
          | refine TO.does (listed' := #[true, true, true, true, true, true, true, true]) none rfl rfl rfl rfl (by kernel_rfl) (Does.store (i := 1) rfl rfl rfl sz25 rfl rfl (by first | decide | omega) rfl rfl) ?_
          | refine TO.does (listed' := #[true, true, true, true, true, true, true, true]) none rfl rfl rfl rfl (by kernel_rfl) (Does.store (i := 2) rfl rfl rfl sz25 rfl rfl (by first | decide | omega) rfl rfl) ?_
          | refine TO.does (listed' := #[true, true, true, true, true, true, true, true]) none rfl rfl rfl rfl (by kernel_rfl) (Does.store (i := 3) rfl rfl rfl sz25 rfl rfl (by first | decide | omega) rfl rfl) ?_
          | refine TO.does (listed' := #[true, true, true, true, true, true, true, true]) none rfl rfl rfl rfl (by kernel_rfl) (Does.store (i := 4) rfl rfl rfl sz25 rfl rfl (by first | decide | omega) rfl rfl) ?_
          | refine TO.does (listed' := #[true, true, true, true, true, true, true, true]) none rfl rfl rfl rfl (by kernel_rfl) (Does.store (i := 5) rfl rfl rfl sz25 rfl rfl (by first | decide | omega) rfl rfl) ?_
        rintro _ _ ⟨rfl, rfl⟩
        refine ⟨(by repeat (first | exact ro_refl | exact ro_pre | refine ro_tail ?_ | refine ro_app ?_)), ?_⟩
        refine TA.done (by kernel_rfl) ?_
        refine AtX.join (ba, bb, (fp, fl, fk, fn), (gp, gl, gk, gn)) ?_ (Sub.cons rfl (Sub.cons rfl (Sub.cons rfl (Sub.cons rfl (Sub.nil _))))) (fun w h => by first | exact own_two w h | exact own_two' w h)
        exact ⟨⟨hf, hfn⟩, ⟨hg, hgn⟩⟩
    · skip
      refine TO.does (listed' := #[true, false, true, false, false, true, false, false]) (some 10) rfl rfl rfl rfl (by kernel_rfl) (Does.alloc ze25 rfl) ?_
      rintro _ _ ⟨bb, rfl, rfl⟩
      refine ⟨(by repeat (first | exact ro_refl | exact ro_pre | refine ro_tail ?_ | refine ro_app ?_)), ?_⟩
      refine TA.two 1 4 (by kernel_rfl) ?_ ?_
      · skip
        refine TO.does (listed' := #[true, true, true, false, false, true, false, false]) (some 21) rfl rfl rfl rfl (by kernel_rfl) (Does.callF go21 rfl (fit_fn p pl kd A n c _ hp hpl hkd hc)) ?_
        rintro _ _ ⟨fp, fl, fk, fn, rfl, hf, hfn, rfl⟩
        refine ⟨(by repeat (first | exact ro_refl | exact ro_pre | refine ro_tail ?_ | refine ro_app ?_)), ?_⟩
        refine TA.two 3 4 (by kernel_rfl) ?_ ?_
        · skip
          refine TO.does (listed' := #[true, true, true, true, false, true, false, false]) (some 23) rfl rfl rfl rfl (by kernel_rfl) (Does.callF go21 rfl (fit_fn p2 pl2 kd2 A2 n2 cap2 _ hp2 hpl2 hkd2 hc2)) ?_
          rintro _ _ ⟨gp, gl, gk, gn, rfl, hg, hgn, rfl⟩
          refine ⟨(by repeat (first | exact ro_refl | exact ro_pre | refine ro_tail ?_ | refine ro_app ?_)), ?_⟩
          refine TA.one 4 (by kernel_rfl) ?_
          refine TO.does (listed' := #[true, true, true, true, true, true, false, false]) (some 9) rfl rfl rfl rfl (by kernel_rfl) (Does.alloc ze25 rfl) ?_
          rintro _ _ ⟨ba, rfl, rfl⟩
          refine ⟨(by repeat (first | exact ro_refl | exact ro_pre | refine ro_tail ?_ | refine ro_app ?_)), ?_⟩
          refine TA.one 6 (by kernel_rfl) ?_
          first
            | refine TO.does (listed' := #[true, true, true, true, true, true, true, false]) none rfl rfl rfl rfl (by kernel_rfl) (Does.store (i := 0) rfl rfl rfl sz25 rfl rfl (by first | decide | omega) rfl rfl) ?_
            | refine TO.does (listed' := #[true, true, true, true, true, true, true, false]) none rfl rfl rfl rfl (by kernel_rfl) (Does.store (i := 1) rfl rfl rfl sz25 rfl rfl (by first | decide | omega) rfl rfl) ?_
            | refine TO.does (listed' := #[true, true, true, true, true, true, true, false]) none rfl rfl rfl rfl (by kernel_rfl) (Does.store (i := 2) rfl rfl rfl sz25 rfl rfl (by first | decide | omega) rfl rfl) ?_
            | refine TO.does (listed' := #[true, true, true, true, true, true, true, false]) none rfl rfl rfl rfl (by kernel_rfl) (Does.store (i := 3) rfl rfl rfl sz25 rfl rfl (by first | decide | omega) rfl rfl) ?_
            | refine TO.does (listed' := #[true, true, true, true, true, true, true, false]) none rfl rfl rfl rfl (by kernel_rfl) (Does.store (i := 4) rfl rfl rfl sz25 rfl rfl (by first | decide | omega) rfl rfl) ?_
            | refine TO.does (listed' := #[true, true, true, true, true, true, true, false]) none rfl rfl rfl rfl (by kernel_rfl) (Does.store (i := 5) rfl rfl rfl sz25 rfl rfl (by first | decide | omega) rfl rfl) ?_
          rintro _ _ ⟨rfl, rfl⟩
          refine ⟨(by repeat (first | exact ro_refl | exact ro_pre | refine ro_tail ?_ | refine ro_app ?_)), ?_⟩
          refine TA.one 7 (by kernel_rfl) ?_
          first
            | refine TO.does (listed' := #[true, true, true, true, true, true, true, true]) none rfl rfl rfl rfl (by kernel_rfl) (Does.store (i := 0) rfl rfl rfl sz25 rfl rfl (by first | decide | omega) rfl rfl) ?_
            | refine TO.does (listed' := #[true, true, true, true, true, true, true, true]) none rfl rfl rfl rfl (by kernel_rfl) (Does.store (i := 1) rfl rfl rfl sz25 rfl rfl (by first | decide | omega) rfl rfl) ?_
            | refine TO.does (listed' := #[true, true, true, true, true, true, true, true]) none rfl rfl rfl rfl (by kernel_rfl) (Does.store (i := 2) rfl rfl rfl sz25 rfl rfl (by first | decide | omega) rfl rfl) ?_
            | refine TO.does (listed' := #[true, true, true, true, true, true, true, true]) none rfl rfl rfl rfl (by kernel_rfl) (Does.store (i := 3) rfl rfl rfl sz25 rfl rfl (by first | decide | omega) rfl rfl) ?_
            | refine TO.does (listed' := #[true, true, true, true, true, true, true, true]) none rfl rfl rfl rfl (by kernel_rfl) (Does.store (i := 4) rfl rfl rfl sz25 rfl rfl (by first | decide | omega) rfl rfl) ?_
            | refine TO.does (listed' := #[true, true, true, true, true, true, true, true]) none rfl rfl rfl rfl (by kernel_rfl) (Does.store (i := 5) rfl rfl rfl sz25 rfl rfl (by first | decide | omega) rfl rfl) ?_
          rintro _ _ ⟨rfl, rfl⟩
          refine ⟨(by repeat (first | exact ro_refl | exact ro_pre | refine ro_tail ?_ | refine ro_app ?_)), ?_⟩
          refine TA.done (by kernel_rfl) ?_
          refine AtX.join (ba, bb, (fp, fl, fk, fn), (gp, gl, gk, gn)) ?_ (Sub.cons rfl (Sub.cons rfl (Sub.cons rfl (Sub.cons rfl (Sub.nil _))))) (fun w h => by first | exact own_two w h | exact own_two' w h)
          exact ⟨⟨hf, hfn⟩, ⟨hg, hgn⟩⟩
        · skip
          refine TO.does (listed' := #[true, true, true, false, true, true, false, false]) (some 9) rfl rfl rfl rfl (by kernel_rfl) (Does.alloc ze25 rfl) ?_
          rintro _ _ ⟨ba, rfl, rfl⟩
          refine ⟨(by repeat (first | exact ro_refl | exact ro_pre | refine ro_tail ?_ | refine ro_app ?_)), ?_⟩
          refine TA.one 3 (by kernel_rfl) ?_
          refine TO.does (listed' := #[true, true, true, true, true, true, false, false]) (some 23) rfl rfl rfl rfl (by kernel_rfl) (Does.callF go21 rfl (fit_fn p2 pl2 kd2 A2 n2 cap2 _ hp2 hpl2 hkd2 hc2)) ?_
          rintro _ _ ⟨gp, gl, gk, gn, rfl, hg, hgn, rfl⟩
          refine ⟨(by repeat (first | exact ro_refl | exact ro_pre | refine ro_tail ?_ | refine ro_app ?_)), ?_⟩
          refine TA.one 6 (by kernel_rfl) ?_
          first
            | refine TO.does (listed' := #[true, true, true, true, true, true, true, false]) none rfl rfl rfl rfl (by kernel_rfl) (Does.store (i := 0) rfl rfl rfl sz25 rfl rfl (by first | decide | omega) rfl rfl) ?_
            | refine TO.does (listed' := #[true, true, true, true, true, true, true, false]) none rfl rfl rfl rfl (by kernel_rfl) (Does.store (i := 1) rfl rfl rfl sz25 rfl rfl (by first | decide | omega) rfl rfl) ?_
            | refine TO.does (listed' := #[true, true, true, true, true, true, true, false]) none rfl rfl rfl rfl (by kernel_rfl) (Does.store (i := 2) rfl rfl rfl sz25 rfl rfl (by first | decide | omega) rfl rfl) ?_
            | refine TO.does (listed' := #[true, true, true, true, true, true, true, false]) none rfl rfl rfl rfl (by kernel_rfl) (Does.store (i := 3) rfl rfl rfl sz25 rfl rfl (by first | decide | omega) rfl rfl) ?_
            | refine TO.does (listed' := #[true, true, true, true, true, true, true, false]) none rfl rfl rfl rfl (by kernel_rfl) (Does.store (i := 4) rfl rfl rfl sz25 rfl rfl (by first | decide | omega) rfl rfl) ?_
            | refine TO.does (listed' := #[true, true, true, true, true, true, true, false]) none rfl rfl rfl rfl (by kernel_rfl) (Does.store (i := 5) rfl rfl rfl sz25 rfl rfl (by first | decide | omega) rfl rfl) ?_
          rintro _ _ ⟨rfl, rfl⟩
          refine ⟨(by repeat (first | exact ro_refl | exact ro_pre | refine ro_tail ?_ | refine ro_app ?_)), ?_⟩
          refine TA.one 7 (by kernel_rfl) ?_
          first
            | refine TO.does (listed' := #[true, true, true, true, true, true, true, true]) none rfl rfl rfl rfl (by kernel_rfl) (Does.store (i := 0) rfl rfl rfl sz25 rfl rfl (by first | decide | omega) rfl rfl) ?_
            | refine TO.does (listed' := #[true, true, true, true, true, true, true, true]) none rfl rfl rfl rfl (by kernel_rfl) (Does.store (i := 1) rfl rfl rfl sz25 rfl rfl (by first | decide | omega) rfl rfl) ?_
            | refine TO.does (listed' := #[true, true, true, true, true, true, true, true]) none rfl rfl rfl rfl (by kernel_rfl) (Does.store (i := 2) rfl rfl rfl sz25 rfl rfl (by first | decide | omega) rfl rfl) ?_
            | refine TO.does (listed' := #[true, true, true, true, true, true, true, true]) none rfl rfl rfl rfl (by kernel_rfl) (Does.store (i := 3) rfl rfl rfl sz25 rfl rfl (by first | decide | omega) rfl rfl) ?_
            | refine TO.does (listed' := #[true, true, true, true, true, true, true, true]) none rfl rfl rfl rfl (by kernel_rfl) (Does.store (i := 4) rfl rfl rfl sz25 rfl rfl (by first | decide | omega) rfl rfl) ?_
            | refine TO.does (listed' := #[true, true, true, true, true, true, true, true]) none rfl rfl rfl rfl (by kernel_rfl) (Does.store (i := 5) rfl rfl rfl sz25 rfl rfl (by first | decide | omega) rfl rfl) ?_
          rintro _ _ ⟨rfl, rfl⟩
          refine ⟨(by repeat (first | exact ro_refl | exact ro_pre | refine ro_tail ?_ | refine ro_app ?_)), ?_⟩
          refine TA.done (by kernel_rfl) ?_
          refine AtX.join (ba, bb, (fp, fl, fk, fn), (gp, gl, gk, gn)) ?_ (Sub.cons rfl (Sub.cons rfl (Sub.cons rfl (Sub.cons rfl (Sub.nil _))))) (fun w h => by first | exact own_two w h | exact own_two' w h)
          exact ⟨⟨hf, hfn⟩, ⟨hg, hgn⟩⟩
      · skip
        refine TO.does (listed' := #[true, false, true, false, true, true, false, false]) (some 9) rfl rfl rfl rfl (by kernel_rfl) (Does.alloc ze25 rfl) ?_
        rintro _ _ ⟨ba, rfl, rfl⟩
        refine ⟨(by repeat (first | exact ro_refl | exact ro_pre | refine ro_tail ?_ | refine ro_app ?_)), ?_⟩
        refine TA.one 1 (by kernel_rfl) ?_
        refine TO.does (listed' := #[true, true, true, false, true, true, false, false]) (some 21) rfl rfl rfl rfl (by kernel_rfl) (Does.callF go21 rfl (fit_fn p pl kd A n c _ hp hpl hkd hc)) ?_
        rintro _ _ ⟨fp, fl, fk, fn, rfl, hf, hfn, rfl⟩
        refine ⟨(by repeat (first | exact ro_refl | exact ro_pre | refine ro_tail ?_ | refine ro_app ?_)), ?_⟩
        refine TA.one 3 (by kernel_rfl) ?_
        refine TO.does (listed' := #[true, true, true, true, true, true, false, false]) (some 23) rfl rfl rfl rfl (by kernel_rfl) (Does.callF go21 rfl (fit_fn p2 pl2 kd2 A2 n2 cap2 _ hp2 hpl2 hkd2 hc2)) ?_
        rintro _ _ ⟨gp, gl, gk, gn, rfl, hg, hgn, rfl⟩
        refine ⟨(by repeat (first | exact ro_refl | exact ro_pre | refine ro_tail ?_ | refine ro_app ?_)), ?_⟩
        refine TA.one 6 (by kernel_rfl) ?_
        first
          | refine TO.does (listed' := #[true, true, true, true, true, true, true, false]) none rfl rfl rfl rfl (by kernel_rfl) (Does.store (i := 0) rfl rfl rfl sz25 rfl rfl (by first | decide | omega) rfl rfl) ?_
          | refine TO.does (listed' := #[true, true, true, true, true, true, true, false]) none rfl rfl rfl rfl (by kernel_rfl) (Does.store (i := 1) rfl rfl rfl sz25 rfl rfl (by first | decide | omega) rfl rfl) ?_
          | refine TO.does (listed' := #[true, true, true, true, true, true, true, false]) none rfl rfl rfl rfl (by kernel_rfl) (Does.store (i := 2) rfl rfl rfl sz25 rfl rfl (by first | decide | omega) rfl rfl) ?_
          | refine TO.does (listed' := #[true, true, true, true, true, true, true, false]) none rfl rfl rfl rfl (by kernel_rfl) (Does.store (i := 3) rfl rfl rfl sz25 rfl rfl (by first | decide | omega) rfl rfl) ?_
          | refine TO.does (listed' := #[true, true, true, true, true, true, true, false]) none rfl rfl rfl rfl (by kernel_rfl) (Does.store (i := 4) rfl rfl rfl sz25 rfl rfl (by first | decide | omega) rfl rfl) ?_
          | refine TO.does (listed' := #[true, true, true, true, true, true, true, false]) none rfl rfl rfl rfl (by kernel_rfl) (Does.store (i := 5) rfl rfl rfl sz25 rfl rfl (by first | decide | omega) rfl rfl) ?_
        rintro _ _ ⟨rfl, rfl⟩
        refine ⟨(by repeat (first | exact ro_refl | exact ro_pre | refine ro_tail ?_ | refine ro_app ?_)), ?_⟩
        refine TA.one 7 (by kernel_rfl) ?_
        first
          | refine TO.does (listed' := #[true, true, true, true, true, true, true, true]) none rfl rfl rfl rfl (by kernel_rfl) (Does.store (i := 0) rfl rfl rfl sz25 rfl rfl (by first | decide | omega) rfl rfl) ?_
          | refine TO.does (listed' := #[true, true, true, true, true, true, true, true]) none rfl rfl rfl rfl (by kernel_rfl) (Does.store (i := 1) rfl rfl rfl sz25 rfl rfl (by first | decide | omega) rfl rfl) ?_
          | refine TO.does (listed' := #[true, true, true, true, true, true, true, true]) none rfl rfl rfl rfl (by kernel_rfl) (Does.store (i := 2) rfl rfl rfl sz25 rfl rfl (by first | decide | omega) rfl rfl) ?_
          | refine TO.does (listed' := #[true, true, true, true, true, true, true, true]) none rfl rfl rfl rfl (by kernel_rfl) (Does.store (i := 3) rfl rfl rfl sz25 rfl rfl (by first | decide | omega) rfl rfl) ?_
          | refine TO.does (listed' := #[true, true, true, true, true, true, true, true]) none rfl rfl rfl rfl (by kernel_rfl) (Does.store (i := 4) rfl rfl rfl sz25 rfl rfl (by first | decide | omega) rfl rfl) ?_
          | refine TO.does (listed' := #[true, true, true, true, true, true, true, true]) none rfl rfl rfl rfl (by kernel_rfl) (Does.store (i := 5) rfl rfl rfl sz25 rfl rfl (by first | decide | omega) rfl rfl) ?_
        rintro _ _ ⟨rfl, rfl⟩
        refine ⟨(by repeat (first | exact ro_refl | exact ro_pre | refine ro_tail ?_ | refine ro_app ?_)), ?_⟩
        refine TA.done (by kernel_rfl) ?_
        refine AtX.join (ba, bb, (fp, fl, fk, fn), (gp, gl, gk, gn)) ?_ (Sub.cons rfl (Sub.cons rfl (Sub.cons rfl (Sub.cons rfl (Sub.nil _))))) (fun w h => by first | exact own_two w h | exact own_two' w h)
        exact ⟨⟨hf, hfn⟩, ⟨hg, hgn⟩⟩
  · rintro ⟨b5, b6, ⟨q, ql, qk, k⟩, ⟨q2, ql2, qk2, k2⟩⟩ ⟨⟨hm, hk⟩, ⟨hm2, hk2⟩⟩
    dsimp only at hm hk hm2 hk2 ⊢
    obtain ⟨d, rfl, hR⟩ := kept hA hn hk
    obtain ⟨d2, rfl, hR2⟩ := kept hA2 hn2 hk2
    refine TC.seq ?_
    refine TC.seq ?_
    refine TC.region ?_
    refine TL.val rfl rfl (Nat.le_of_ble_eq_true rfl) (Val.fieldAddr rfl fl25_0 sz22 rfl) ?_
    first
      | refine TL.val rfl rfl (Nat.le_of_ble_eq_true rfl) (Val.load 0 rfl ag22 rfl rfl) ?_
      | refine TL.val rfl rfl (Nat.le_of_ble_eq_true rfl) (Val.load 1 rfl ag22 rfl rfl) ?_
      | refine TL.val rfl rfl (Nat.le_of_ble_eq_true rfl) (Val.load 2 rfl ag22 rfl rfl) ?_
      | refine TL.val rfl rfl (Nat.le_of_ble_eq_true rfl) (Val.load 3 rfl ag22 rfl rfl) ?_
      | refine TL.val rfl rfl (Nat.le_of_ble_eq_true rfl) (Val.load 4 rfl ag22 rfl rfl) ?_
      | refine TL.val rfl rfl (Nat.le_of_ble_eq_true rfl) (Val.load 5 rfl ag22 rfl rfl) ?_
    refine TL.val rfl rfl (Nat.le_of_ble_eq_true rfl) (Val.fieldAddr rfl fl25_0 sz22 rfl) ?_
    first
      | refine TL.val rfl rfl (Nat.le_of_ble_eq_true rfl) (Val.load 0 rfl ag22 rfl rfl) ?_
      | refine TL.val rfl rfl (Nat.le_of_ble_eq_true rfl) (Val.load 1 rfl ag22 rfl rfl) ?_
      | refine TL.val rfl rfl (Nat.le_of_ble_eq_true rfl) (Val.load 2 rfl ag22 rfl rfl) ?_
      | refine TL.val rfl rfl (Nat.le_of_ble_eq_true rfl) (Val.load 3 rfl ag22 rfl rfl) ?_
      | refine TL.val rfl rfl (Nat.le_of_ble_eq_true rfl) (Val.load 4 rfl ag22 rfl rfl) ?_
      | refine TL.val rfl rfl (Nat.le_of_ble_eq_true rfl) (Val.load 5 rfl ag22 rfl rfl) ?_
    refine TL.val rfl rfl (Nat.le_of_ble_eq_true rfl) (Val.eqlI rfl rfl) ?_
    refine TL.nil ?_
    refine AtX.then ?_
    refine TC.env (E' := [(2, _), (3, _), (9, _), (10, _), (28, _)]) (Sub.cons rfl (Sub.cons rfl (Sub.cons rfl (Sub.cons rfl (Sub.cons rfl (Sub.nil _)))))) ?_
    first | refine TC.condP rfl (fun c1 => ?_) (fun c1 => ?_) | refine TC.condN rfl (fun c1 => ?_) (fun c1 => ?_) | refine TC.condB rfl (fun c1 => ?_) (fun c1 => ?_) | refine TC.cond rfl (fun c1 => ?_) (fun c1 => ?_)
    · skip
      refine TC.env (E' := [(2, _), (3, _), (9, _), (10, _)]) (Sub.cons rfl (Sub.cons rfl (Sub.cons rfl (Sub.cons rfl (Sub.nil _))))) ?_
      refine TC.seq ?_
      refine TC.region ?_
      refine TL.does (some 29) rfl rfl rfl (Does.callF go9 rfl (told_fn _)) ?_
      rintro _ _ ⟨rfl, rfl⟩
      refine TL.val rfl rfl (Nat.le_of_ble_eq_true rfl) (Val.assign rfl) ?_
      refine TL.nil ?_
      refine AtX.then ?_
      refine TC.env (E' := [(2, _), (3, _), (8, _), (9, _), (10, _)]) (Sub.cons rfl (Sub.cons rfl (Sub.cons rfl (Sub.cons rfl (Sub.cons rfl (Sub.nil _)))))) ?_
      refine TC.ret1 (fn := Try.f5) (fun _ _ h => h) rfl (RV.tmp rfl) (M' := M) (by repeat (first | refine ro_tail ?_ | refine ro_app ?_ | exact ro_refl | exact ro_pre)) ?_
      first | exact ⟨rfl, rfl⟩ | (refine ⟨?_, rfl⟩; clear hL hlz hok hok2 hR hR2 hm hm2 hA hA2 hp hpl hkd hp2 hpl2 hkd2 hn hn2 hc hc2 hk0 hkl hlzl hl1 hLl hc7 hcz hcx c2; clear hk; grind)
    · skip
      refine TC.env (E' := [(2, _), (3, _), (9, _), (10, _)]) (Sub.cons rfl (Sub.cons rfl (Sub.cons rfl (Sub.cons rfl (Sub.nil _))))) ?_
      refine TC.skip ?_
      refine AtX.then ?_
      refine TC.env (E' := [(2, _), (3, _), (9, _), (10, _)]) (Sub.cons rfl (Sub.cons rfl (Sub.cons rfl (Sub.cons rfl (Sub.nil _))))) ?_
      refine TC.seq ?_
      refine TC.region ?_
      first
        | refine TL.val rfl rfl (Nat.le_of_ble_eq_true rfl) (Val.loadAgg 0 rfl ag25 sz25 rfl rfl rfl) ?_
        | refine TL.val rfl rfl (Nat.le_of_ble_eq_true rfl) (Val.loadAgg 1 rfl ag25 sz25 rfl rfl rfl) ?_
        | refine TL.val rfl rfl (Nat.le_of_ble_eq_true rfl) (Val.loadAgg 2 rfl ag25 sz25 rfl rfl rfl) ?_
        | refine TL.val rfl rfl (Nat.le_of_ble_eq_true rfl) (Val.loadAgg 3 rfl ag25 sz25 rfl rfl rfl) ?_
        | refine TL.val rfl rfl (Nat.le_of_ble_eq_true rfl) (Val.loadAgg 4 rfl ag25 sz25 rfl rfl rfl) ?_
        | refine TL.val rfl rfl (Nat.le_of_ble_eq_true rfl) (Val.loadAgg 5 rfl ag25 sz25 rfl rfl rfl) ?_
      refine TL.does (some 32) rfl rfl rfl (Does.callF go10 rfl (Put_fn q ql qk d A d.length c _ (hR.cons _ |>.cons _) rfl hm)) ?_
      rintro _ _ ⟨b7, c7, sp7, rfl, hc7, rfl⟩
      refine TL.val rfl rfl (Nat.le_of_ble_eq_true rfl) (Val.move rfl) ?_
      refine TL.val rfl rfl (Nat.le_of_ble_eq_true rfl) (Val.extract rfl rfl) ?_
      refine TL.val rfl rfl (Nat.le_of_ble_eq_true rfl) (Val.extract rfl rfl) ?_
      refine TL.val rfl rfl (Nat.le_of_ble_eq_true rfl) (Val.assign rfl) ?_
      refine TL.val rfl rfl (Nat.le_of_ble_eq_true rfl) (Val.assign rfl) ?_
      refine TL.nil ?_
      refine AtX.then ?_
      refine TC.env (E' := [(2, _), (3, _), (10, _), (11, _), (12, _)]) (Sub.cons rfl (Sub.cons rfl (Sub.cons rfl (Sub.cons rfl (Sub.cons rfl (Sub.nil _)))))) ?_
      refine TC.seq ?_
      refine TC.region ?_
      first
        | refine TL.val rfl rfl (Nat.le_of_ble_eq_true rfl) (Val.loadAgg 0 rfl ag25 sz25 rfl rfl rfl) ?_
        | refine TL.val rfl rfl (Nat.le_of_ble_eq_true rfl) (Val.loadAgg 1 rfl ag25 sz25 rfl rfl rfl) ?_
        | refine TL.val rfl rfl (Nat.le_of_ble_eq_true rfl) (Val.loadAgg 2 rfl ag25 sz25 rfl rfl rfl) ?_
        | refine TL.val rfl rfl (Nat.le_of_ble_eq_true rfl) (Val.loadAgg 3 rfl ag25 sz25 rfl rfl rfl) ?_
        | refine TL.val rfl rfl (Nat.le_of_ble_eq_true rfl) (Val.loadAgg 4 rfl ag25 sz25 rfl rfl rfl) ?_
        | refine TL.val rfl rfl (Nat.le_of_ble_eq_true rfl) (Val.loadAgg 5 rfl ag25 sz25 rfl rfl rfl) ?_
      refine TL.does (some 37) rfl rfl rfl (Does.callF go10 rfl (Put_fn q2 ql2 qk2 d2 A2 d2.length cap2 _ (hR2.cons _ |>.cons _ |>.cons _) rfl hm2)) ?_
      rintro _ _ ⟨b9, c9, sp9, rfl, hc9, rfl⟩
      refine TL.val rfl rfl (Nat.le_of_ble_eq_true rfl) (Val.move rfl) ?_
      refine TL.val rfl rfl (Nat.le_of_ble_eq_true rfl) (Val.extract rfl rfl) ?_
      refine TL.val rfl rfl (Nat.le_of_ble_eq_true rfl) (Val.extract rfl rfl) ?_
      refine TL.val rfl rfl (Nat.le_of_ble_eq_true rfl) (Val.assign rfl) ?_
      refine TL.val rfl rfl (Nat.le_of_ble_eq_true rfl) (Val.assign rfl) ?_
      refine TL.nil ?_
      refine AtX.then ?_
      refine TC.env (E' := [(2, _), (3, _), (10, _), (11, _), (12, _), (13, _), (14, _)]) (Sub.cons rfl (Sub.cons rfl (Sub.cons rfl (Sub.cons rfl (Sub.cons rfl (Sub.cons rfl (Sub.cons rfl (Sub.nil _)))))))) ?_
      refine TC.seq ?_
      refine TC.seq ?_
      refine TC.region ?_
      refine TL.val rfl rfl (Nat.le_of_ble_eq_true rfl) (Val.move rfl) ?_
      refine TL.val rfl rfl (Nat.le_of_ble_eq_true rfl) (Val.same (v' := .bool false) (Val.neqI rfl rfl) (by simp)) ?_
      refine TL.val rfl rfl (Nat.le_of_ble_eq_true rfl) (Val.move rfl) ?_
      refine TL.valYes rfl rfl (Nat.le_of_ble_eq_true rfl) rfl (Nat.le_of_ble_eq_true rfl) rfl (Val.move rfl) ?_
      refine TL.valYes rfl rfl (Nat.le_of_ble_eq_true rfl) rfl (Nat.le_of_ble_eq_true rfl) rfl (Val.same (v' := .bool false) (Val.neqI rfl rfl) (by simp)) ?_
      first
        | refine TL.val rfl rfl (Nat.le_of_ble_eq_true rfl) (Val.pickAnd rfl rfl rfl) ?_
        | refine TL.val rfl rfl (Nat.le_of_ble_eq_true rfl) (Val.pickOr rfl rfl rfl) ?_
        | refine TL.val rfl rfl (Nat.le_of_ble_eq_true rfl) (Val.pick rfl rfl rfl) ?_
      refine TL.val rfl rfl (Nat.le_of_ble_eq_true rfl) (Val.move rfl) ?_
      refine TL.valYes rfl rfl (Nat.le_of_ble_eq_true rfl) rfl (Nat.le_of_ble_eq_true rfl) rfl (Val.move rfl) ?_
      refine TL.valYes rfl rfl (Nat.le_of_ble_eq_true rfl) rfl (Nat.le_of_ble_eq_true rfl) rfl (Val.lenSl rfl rfl sl23) ?_
      refine TL.valYes rfl rfl (Nat.le_of_ble_eq_true rfl) rfl (Nat.le_of_ble_eq_true rfl) rfl (Val.same (v' := .bool false) (Val.neqI rfl rfl) (by simp)) ?_
      first
        | refine TL.val rfl rfl (Nat.le_of_ble_eq_true rfl) (Val.pickAnd rfl rfl rfl) ?_
        | refine TL.val rfl rfl (Nat.le_of_ble_eq_true rfl) (Val.pickOr rfl rfl rfl) ?_
        | refine TL.val rfl rfl (Nat.le_of_ble_eq_true rfl) (Val.pick rfl rfl rfl) ?_
      refine TL.val rfl rfl (Nat.le_of_ble_eq_true rfl) (Val.move rfl) ?_
      refine TL.valYes rfl rfl (Nat.le_of_ble_eq_true rfl) rfl (Nat.le_of_ble_eq_true rfl) rfl (Val.move rfl) ?_
      refine TL.valYes rfl rfl (Nat.le_of_ble_eq_true rfl) rfl (Nat.le_of_ble_eq_true rfl) rfl (Val.lenSl rfl rfl sl23) ?_
      refine TL.valYes rfl rfl (Nat.le_of_ble_eq_true rfl) rfl (Nat.le_of_ble_eq_true rfl) rfl (Val.same (v' := .bool false) (Val.neqI rfl rfl) (by simp)) ?_
      first
        | refine TL.val rfl rfl (Nat.le_of_ble_eq_true rfl) (Val.pickAnd rfl rfl rfl) ?_
        | refine TL.val rfl rfl (Nat.le_of_ble_eq_true rfl) (Val.pickOr rfl rfl rfl) ?_
        | refine TL.val rfl rfl (Nat.le_of_ble_eq_true rfl) (Val.pick rfl rfl rfl) ?_
      refine TL.nil ?_
      refine AtX.then ?_
      refine TC.env (E' := [(2, _), (3, _), (10, _), (11, _), (13, _), (55, _)]) (Sub.cons rfl (Sub.cons rfl (Sub.cons rfl (Sub.cons rfl (Sub.cons rfl (Sub.cons rfl (Sub.nil _))))))) ?_
      first | refine TC.condP rfl (fun c2 => ?_) (fun c2 => ?_) | refine TC.condN rfl (fun c2 => ?_) (fun c2 => ?_) | refine TC.condB rfl (fun c2 => ?_) (fun c2 => ?_) | refine TC.cond rfl (fun c2 => ?_) (fun c2 => ?_)
      · skip
        cases c2
      · skip
        refine TC.env (E' := [(2, _), (3, _), (10, _), (11, _), (13, _)]) (Sub.cons rfl (Sub.cons rfl (Sub.cons rfl (Sub.cons rfl (Sub.cons rfl (Sub.nil _)))))) ?_
        refine TC.skip ?_
        refine AtX.then ?_
        refine TC.env (E' := [(2, _), (3, _), (10, _), (11, _), (13, _)]) (Sub.cons rfl (Sub.cons rfl (Sub.cons rfl (Sub.cons rfl (Sub.cons rfl (Sub.nil _)))))) ?_
        refine TC.join (ι := (Nat × Nat × List Value)) (fun i => [(10, .pointer (some ⟨b6, 0, none⟩)), (11, .slice (some ⟨b7, 0, none⟩) 64 c7), (13, .slice (some ⟨i.1, 0, none⟩) 64 i.2.1), (2, .int .i64 cut), (3, .bool zr)]) (fun i => (i.1, row 5 (bv (if zr = true then List.replicate 64 (0 : UInt8) else cellB q2 ql2 qk2 d2) ++ i.2.2)) :: (b7, row 5 (bv (cellB q ql qk d) ++ sp7)) :: (b6, .cells #[.int .u32 q2, .int .i64 ql2, .int .i64 qk2, .slice A2 d2.length cap2] 25 (0, 0)) :: M) (fun i => 64 + i.2.2.length = i.2.1) ?_ ?_
        · skip
          refine TC.seq ?_
          refine TC.region ?_
          refine TL.val rfl rfl (Nat.le_of_ble_eq_true rfl) (Val.move rfl) ?_
          refine TL.nil ?_
          refine AtX.then ?_
          refine TC.env (E' := [(2, _), (3, _), (10, _), (11, _), (13, _), (56, _)]) (Sub.cons rfl (Sub.cons rfl (Sub.cons rfl (Sub.cons rfl (Sub.cons rfl (Sub.cons rfl (Sub.nil _))))))) ?_
          first | refine TC.condP rfl (fun c3 => ?_) (fun c3 => ?_) | refine TC.condN rfl (fun c3 => ?_) (fun c3 => ?_) | refine TC.condB rfl (fun c3 => ?_) (fun c3 => ?_) | refine TC.cond rfl (fun c3 => ?_) (fun c3 => ?_)
          · skip
            refine TC.env (E' := [(2, _), (3, _), (10, _), (11, _), (13, _)]) (Sub.cons rfl (Sub.cons rfl (Sub.cons rfl (Sub.cons rfl (Sub.cons rfl (Sub.nil _)))))) ?_
            refine TC.region ?_
            refine TL.does (some 57) rfl rfl rfl (Does.makeSlice (n := 64) (c := 64) rfl rfl sl23 sz5 by5 ze5 rfl rfl rfl (by omega) (by omega) (by omega)) ?_
            rintro _ _ ⟨bm, rfl, rfl⟩
            refine TL.val rfl rfl (Nat.le_of_ble_eq_true rfl) (Val.assign rfl) ?_
            refine TL.nil ?_
            refine AtX.join (bm, 64, []) ?_ (Sub.cons rfl (Sub.cons rfl (Sub.cons rfl (Sub.cons rfl (Sub.cons rfl (Sub.nil _)))))) (fun w h => by subst c3; simp only [if_true, zrep_bytes, List.append_nil]; exact torn_heap1 w h)
            first | rfl | exact hc9
          · skip
            refine TC.env (E' := [(2, _), (3, _), (10, _), (11, _), (13, _)]) (Sub.cons rfl (Sub.cons rfl (Sub.cons rfl (Sub.cons rfl (Sub.cons rfl (Sub.nil _)))))) ?_
            refine TC.skip ?_
            refine AtX.join (b9, c9, sp9) ?_ (Sub.cons rfl (Sub.cons rfl (Sub.cons rfl (Sub.cons rfl (Sub.cons rfl (Sub.nil _)))))) (fun w h => by subst c3; exact torn_heap2 w h)
            first | rfl | exact hc9
        · rintro ⟨bz, cz, spz⟩ hcz
          dsimp only at hcz ⊢
          obtain ⟨lz, hlz⟩ : ∃ l, l = (if zr = true then List.replicate 64 (0 : UInt8) else cellB q2 ql2 qk2 d2) := ⟨_, rfl⟩
          rw [← hlz]
          have hlzl := lz_len hm2 hlz
          have hl1 := cell_len hm
          refine TC.seq ?_
          obtain ⟨k, hk⟩ : ∃ k, k = (IntKind.u64.wrap cut).toNat % 64 := ⟨_, rfl⟩
          have hkl : k < 64 := by rw [hk]; exact Nat.mod_lt _ (by omega)
          refine TC.region ?_
          refine TL.val rfl rfl (Nat.le_of_ble_eq_true rfl) (Val.move rfl) ?_
          first
            | refine TL.val rfl rfl (Nat.le_of_ble_eq_true rfl) (Val.convI rfl iu3 in46 (w_u64 (by omega) (by omega))) ?_
            | refine TL.val rfl rfl (Nat.le_of_ble_eq_true rfl) (Val.convI rfl iu3 in46 rfl) ?_
          refine TL.val rfl rfl (Nat.le_of_ble_eq_true rfl) (Val.rem rfl rfl (by omega) (r := (k : Nat)) (by rw [hk]; exact rem_u (n := 64) hk0)) ?_
          first
            | refine TL.val rfl rfl (Nat.le_of_ble_eq_true rfl) (Val.convI rfl iu46 in3 (w_i64 (by omega) (by omega))) ?_
            | refine TL.val rfl rfl (Nat.le_of_ble_eq_true rfl) (Val.convI rfl iu46 in3 rfl) ?_
          refine TL.val rfl rfl (Nat.le_of_ble_eq_true rfl) (Val.assign rfl) ?_
          refine TL.nil ?_
          refine AtX.then ?_
          refine TC.env (E' := [(3, _), (10, _), (11, _), (13, _), (15, _)]) (Sub.cons rfl (Sub.cons rfl (Sub.cons rfl (Sub.cons rfl (Sub.cons rfl (Sub.nil _)))))) ?_
          refine TC.seq ?_
          refine TC.draw M mixed ?_
          refine TA.take 1 rfl rfl rfl (Nat.le_of_ble_eq_true rfl) (by kernel_rfl) (by kernel_rfl) (by kernel_rfl) (listed' := #[false, true, false, false, false, false, false, false, false, false]) (by kernel_rfl) (by repeat (first | exact ro_refl | exact ro_pre | refine ro_tail ?_ | refine ro_app ?_)) (Val.move rfl) ?_
          refine TA.take 2 rfl rfl rfl (Nat.le_of_ble_eq_true rfl) (by kernel_rfl) (by kernel_rfl) (by kernel_rfl) (listed' := #[false, true, true, false, false, false, false, false, false, false]) (by kernel_rfl) (by repeat (first | exact ro_refl | exact ro_pre | refine ro_tail ?_ | refine ro_app ?_)) (Val.move rfl) ?_
          refine TA.take 3 rfl rfl rfl (Nat.le_of_ble_eq_true rfl) (by kernel_rfl) (by kernel_rfl) (by kernel_rfl) (listed' := #[false, true, true, true, false, false, false, false, false, false]) (by kernel_rfl) (by repeat (first | exact ro_refl | exact ro_pre | refine ro_tail ?_ | refine ro_app ?_)) (Val.sliceTo (j := k) rfl sl23 sz5 rfl rfl (by omega)) ?_
          refine TA.take 5 rfl rfl rfl (Nat.le_of_ble_eq_true rfl) (by kernel_rfl) (by kernel_rfl) (by kernel_rfl) (listed' := #[false, true, true, true, false, true, false, false, false, false]) (by kernel_rfl) (by repeat (first | exact ro_refl | exact ro_pre | refine ro_tail ?_ | refine ro_app ?_)) (Val.move rfl) ?_
          refine TA.take 6 rfl rfl rfl (Nat.le_of_ble_eq_true rfl) (by kernel_rfl) (by kernel_rfl) (by kernel_rfl) (listed' := #[false, true, true, true, false, true, true, false, false, false]) (by kernel_rfl) (by repeat (first | exact ro_refl | exact ro_pre | refine ro_tail ?_ | refine ro_app ?_)) (Val.move rfl) ?_
          refine TA.take 7 rfl rfl rfl (Nat.le_of_ble_eq_true rfl) (by kernel_rfl) (by kernel_rfl) (by kernel_rfl) (listed' := #[false, true, true, true, false, true, true, true, false, false]) (by kernel_rfl) (by repeat (first | exact ro_refl | exact ro_pre | refine ro_tail ?_ | refine ro_app ?_)) (Val.sliceAt (i := k) (j := 64) (r := 0 + k) rfl sl23 sz5 rfl rfl rfl rfl (by omega) (by omega) (by omega) (by omega)) ?_
          refine TA.one 0 (by kernel_rfl) ?_
          refine TO.does (listed' := #[true, true, true, true, false, true, true, true, false, false]) (some 62) rfl rfl rfl rfl (by kernel_rfl) (Does.buildSlice0 sl23 sz5) ?_
          rintro _ _ ⟨b0, rfl, rfl⟩
          refine ⟨(by repeat (first | exact ro_refl | exact ro_pre | refine ro_tail ?_ | refine ro_app ?_)), ?_⟩
          refine TA.one 4 (by kernel_rfl) ?_
          refine TO.does (listed' := #[true, true, true, true, true, true, true, true, false, false]) (some 66) rfl rfl rfl rfl (by kernel_rfl) (Does.appendS (xs := []) (ys := bv ((cellB q ql qk d).take k)) (n := 0) (some (b0, 0, [])) _ ro_refl rfl rfl sl23 sz5 by5 ze5 rfl ⟨rfl, rfl⟩ (srcB us23 (by rw [bv_take]; exact .some ((rd_allR (i := 2) rfl).take k))) (by rw [bv_len, List.length_take]; omega) (bv_one _) (by omega) (by omega)) ?_
          rintro _ _ ⟨σ, rfl, hok, rfl⟩
          rw [List.nil_append] at hok ⊢
          refine ⟨(by repeat (first | exact ro_refl | exact ro_pre | refine ro_tail ?_ | refine ro_app ?_)), ?_⟩
          refine TA.one 8 (by kernel_rfl) ?_
          refine TO.does (listed' := #[true, true, true, true, true, true, true, true, true, false]) (some 70) rfl rfl rfl rfl (by kernel_rfl) (Does.appendS (xs := bv ((cellB q ql qk d).take k)) (ys := bv (lz.drop k)) (n := 0 + k) σ _ ro_refl rfl rfl sl23 sz5 by5 ze5 rfl hok (srcB us23 (by rw [bv_drop]; exact .some (((rd_allR (i := 0) rfl).drop k).mono fun _ h => List.mem_append_right _ h))) (by rw [bv_len, List.length_drop]; omega) (bv_one _) (by omega) (by omega)) ?_
          rintro _ _ ⟨σ2, rfl, hok2, rfl⟩
          obtain ⟨bx, cx, spx, rfl, hcx⟩ := hok2.some (by omega)
          rw [← bv_append]
          refine ⟨(by repeat (first | exact ro_refl | exact ro_pre | refine ro_tail ?_ | refine ro_app ?_)), ?_⟩
          refine TA.take 9 rfl rfl rfl (Nat.le_of_ble_eq_true rfl) (by kernel_rfl) (by kernel_rfl) (by kernel_rfl) (listed' := #[true, true, true, true, true, true, true, true, true, true]) (by kernel_rfl) (by repeat (first | exact ro_refl | exact ro_pre | refine ro_tail ?_ | refine ro_app ?_)) (Val.assign rfl) ?_
          refine TA.done (by kernel_rfl) ?_
          refine AtX.then ?_
          refine TC.env (E' := [(3, _), (10, _), (13, _), (16, _)]) (Sub.cons rfl (Sub.cons rfl (Sub.cons rfl (Sub.cons rfl (Sub.nil _))))) ?_
          refine TC.seq ?_
          obtain ⟨L, hL⟩ : ∃ L, L = (cellB q ql qk d).take k ++ lz.drop k := ⟨_, rfl⟩
          rw [← hL]
          have hLl : L.length = 64 := by rw [hL, List.length_append, List.length_take, List.length_drop]; omega
          refine TC.region ?_
          refine TL.val rfl rfl (Nat.le_of_ble_eq_true rfl) (Val.move rfl) ?_
          refine TL.does (some 73) rfl rfl rfl (Does.callF go12 rfl (Get_any L _ _ _ _ (rd_all (i := 0) rfl) (by omega) (by have := hcx; simp [hl1, hlzl] at this; show L.length ≤ cx; omega) hLl)) ?_
          rintro _ _ ⟨P2, a2, k2, B2, m2, j2, e2, ok2, rfl, hokk, hcase, rfl⟩
          refine TL.val rfl rfl (Nat.le_of_ble_eq_true rfl) (Val.move rfl) ?_
          refine TL.val rfl rfl (Nat.le_of_ble_eq_true rfl) (Val.extract rfl rfl) ?_
          refine TL.val rfl rfl (Nat.le_of_ble_eq_true rfl) (Val.extract rfl rfl) ?_
          refine TL.val rfl rfl (Nat.le_of_ble_eq_true rfl) (Val.extract rfl rfl) ?_
          refine TL.does (some 17) rfl rfl rfl (Does.alloc ze31 rfl) ?_
          rintro _ _ ⟨b7, rfl, rfl⟩
          first
            | refine TL.does none rfl rfl rfl (Does.store (i := 0) rfl rfl rfl sz31 rfl rfl (by first | decide | omega) rfl rfl) ?_
            | refine TL.does none rfl rfl rfl (Does.store (i := 1) rfl rfl rfl sz31 rfl rfl (by first | decide | omega) rfl rfl) ?_
            | refine TL.does none rfl rfl rfl (Does.store (i := 2) rfl rfl rfl sz31 rfl rfl (by first | decide | omega) rfl rfl) ?_
            | refine TL.does none rfl rfl rfl (Does.store (i := 3) rfl rfl rfl sz31 rfl rfl (by first | decide | omega) rfl rfl) ?_
            | refine TL.does none rfl rfl rfl (Does.store (i := 4) rfl rfl rfl sz31 rfl rfl (by first | decide | omega) rfl rfl) ?_
            | refine TL.does none rfl rfl rfl (Does.store (i := 5) rfl rfl rfl sz31 rfl rfl (by first | decide | omega) rfl rfl) ?_
          rintro _ _ ⟨rfl, rfl⟩
          refine TL.val rfl rfl (Nat.le_of_ble_eq_true rfl) (Val.assign rfl) ?_
          refine TL.val rfl rfl (Nat.le_of_ble_eq_true rfl) (Val.assign rfl) ?_
          refine TL.nil ?_
          refine AtX.then ?_
          refine TC.env (E' := [(3, _), (10, _), (13, _), (16, _), (17, _), (18, _), (19, _)]) (Sub.cons rfl (Sub.cons rfl (Sub.cons rfl (Sub.cons rfl (Sub.cons rfl (Sub.cons rfl (Sub.cons rfl (Sub.nil _)))))))) ?_
          refine TC.seq ?_
          refine TC.seq ?_
          have hfin := torn_fin hm hm2 (by simpa using c1) hkl hlz hL hokk hcase
          clear hcase hokk
          refine TC.region ?_
          refine TL.val rfl rfl (Nat.le_of_ble_eq_true rfl) (Val.move rfl) ?_
          refine TL.val rfl rfl (Nat.le_of_ble_eq_true rfl) (Val.move rfl) ?_
          refine TL.gen (fun g8 hg8 => ?_)
          cases g8 with
          | false =>
            refine TL.pass rfl rfl (Nat.le_of_ble_eq_true rfl) rfl (Nat.le_of_ble_eq_true rfl) rfl rfl ?_
            refine TL.pass rfl rfl (Nat.le_of_ble_eq_true rfl) rfl (Nat.le_of_ble_eq_true rfl) rfl rfl ?_
            refine TL.passU rfl rfl (Nat.le_of_ble_eq_true rfl) rfl (Nat.le_of_ble_eq_true rfl) rfl ?_
            refine TL.passU rfl rfl (Nat.le_of_ble_eq_true rfl) rfl (Nat.le_of_ble_eq_true rfl) rfl ?_
            refine TL.passU rfl rfl (Nat.le_of_ble_eq_true rfl) rfl (Nat.le_of_ble_eq_true rfl) rfl ?_
            refine TL.passU rfl rfl (Nat.le_of_ble_eq_true rfl) rfl (Nat.le_of_ble_eq_true rfl) rfl ?_
            refine TL.passU rfl rfl (Nat.le_of_ble_eq_true rfl) rfl (Nat.le_of_ble_eq_true rfl) rfl ?_
            refine TL.passU rfl rfl (Nat.le_of_ble_eq_true rfl) rfl (Nat.le_of_ble_eq_true rfl) rfl ?_
            refine TL.passU rfl rfl (Nat.le_of_ble_eq_true rfl) rfl (Nat.le_of_ble_eq_true rfl) rfl ?_
            refine TL.passU rfl rfl (Nat.le_of_ble_eq_true rfl) rfl (Nat.le_of_ble_eq_true rfl) rfl ?_
            refine TL.passU rfl rfl (Nat.le_of_ble_eq_true rfl) rfl (Nat.le_of_ble_eq_true rfl) rfl ?_
            refine TL.passU rfl rfl (Nat.le_of_ble_eq_true rfl) rfl (Nat.le_of_ble_eq_true rfl) rfl ?_
            refine TL.passU rfl rfl (Nat.le_of_ble_eq_true rfl) rfl (Nat.le_of_ble_eq_true rfl) rfl ?_
            refine TL.passU rfl rfl (Nat.le_of_ble_eq_true rfl) rfl (Nat.le_of_ble_eq_true rfl) rfl ?_
            refine TL.pass rfl rfl (Nat.le_of_ble_eq_true rfl) rfl (Nat.le_of_ble_eq_true rfl) rfl rfl ?_
            first
              | refine TL.val rfl rfl (Nat.le_of_ble_eq_true rfl) (Val.pickAnd rfl rfl rfl) ?_
              | refine TL.val rfl rfl (Nat.le_of_ble_eq_true rfl) (Val.pickOr rfl rfl rfl) ?_
              | refine TL.val rfl rfl (Nat.le_of_ble_eq_true rfl) (Val.pick rfl rfl rfl) ?_
            refine TL.nil ?_
            refine AtX.then ?_
            refine TC.env (E' := [(3, _), (18, _), (19, _), (94, _)]) (Sub.cons rfl (Sub.cons rfl (Sub.cons rfl (Sub.cons rfl (Sub.nil _))))) ?_
            first | refine TC.condP rfl (fun c4 => ?_) (fun c4 => ?_) | refine TC.condN rfl (fun c4 => ?_) (fun c4 => ?_) | refine TC.condB rfl (fun c4 => ?_) (fun c4 => ?_) | refine TC.cond rfl (fun c4 => ?_) (fun c4 => ?_)
            · skip
              (exfalso; clear hL hlz hok hok2 hR hR2 hm hm2 hA hA2 hp hpl hkd hp2 hpl2 hkd2 hn hn2 hc hc2 hk0 hkl hlzl hl1 hLl hc7 hcz hcx c2; clear hk; grind)
            · skip
              refine TC.env (E' := [(3, _), (18, _), (19, _)]) (Sub.cons rfl (Sub.cons rfl (Sub.cons rfl (Sub.nil _)))) ?_
              refine TC.skip ?_
              refine AtX.then ?_
              refine TC.env (E' := [(3, _), (18, _), (19, _)]) (Sub.cons rfl (Sub.cons rfl (Sub.cons rfl (Sub.nil _)))) ?_
              refine TC.seq ?_
              refine TC.region ?_
              refine TL.does (some 95) rfl rfl rfl (Does.callF go9 rfl (told_fn _)) ?_
              rintro _ _ ⟨rfl, rfl⟩
              refine TL.val rfl rfl (Nat.le_of_ble_eq_true rfl) (Val.move rfl) ?_
              refine TL.valYes rfl rfl (Nat.le_of_ble_eq_true rfl) rfl (Nat.le_of_ble_eq_true rfl) rfl (Val.move rfl) ?_
              refine TL.valYes rfl rfl (Nat.le_of_ble_eq_true rfl) rfl (Nat.le_of_ble_eq_true rfl) rfl (Val.eqlI rfl rfl) ?_
              refine TL.valYes rfl rfl (Nat.le_of_ble_eq_true rfl) rfl (Nat.le_of_ble_eq_true rfl) rfl (Val.move rfl) ?_
              refine TL.gen (fun g10 hg10 => ?_)
              cases g10 with
              | false =>
                refine TL.valYes rfl rfl (Nat.le_of_ble_eq_true rfl) rfl (Nat.le_of_ble_eq_true rfl) rfl (Val.move rfl) ?_
                refine TL.valYes rfl rfl (Nat.le_of_ble_eq_true rfl) rfl (Nat.le_of_ble_eq_true rfl) rfl (Val.move rfl) ?_
                refine TL.gen (fun g11 hg11 => ?_)
                cases g11 with
                | false =>
                  refine TL.pass rfl rfl (Nat.le_of_ble_eq_true rfl) rfl (Nat.le_of_ble_eq_true rfl) rfl rfl ?_
                  refine TL.pass rfl rfl (Nat.le_of_ble_eq_true rfl) rfl (Nat.le_of_ble_eq_true rfl) rfl rfl ?_
                  first
                    | refine TL.valYes rfl rfl (Nat.le_of_ble_eq_true rfl) rfl (Nat.le_of_ble_eq_true rfl) rfl (Val.pickAnd rfl rfl rfl) ?_
                    | refine TL.valYes rfl rfl (Nat.le_of_ble_eq_true rfl) rfl (Nat.le_of_ble_eq_true rfl) rfl (Val.pickOr rfl rfl rfl) ?_
                    | refine TL.valYes rfl rfl (Nat.le_of_ble_eq_true rfl) rfl (Nat.le_of_ble_eq_true rfl) rfl (Val.pick rfl rfl rfl) ?_
                  first
                    | refine TL.valYes rfl rfl (Nat.le_of_ble_eq_true rfl) rfl (Nat.le_of_ble_eq_true rfl) rfl (Val.pickAnd rfl rfl rfl) ?_
                    | refine TL.valYes rfl rfl (Nat.le_of_ble_eq_true rfl) rfl (Nat.le_of_ble_eq_true rfl) rfl (Val.pickOr rfl rfl rfl) ?_
                    | refine TL.valYes rfl rfl (Nat.le_of_ble_eq_true rfl) rfl (Nat.le_of_ble_eq_true rfl) rfl (Val.pick rfl rfl rfl) ?_
                  first
                    | refine TL.val rfl rfl (Nat.le_of_ble_eq_true rfl) (Val.pickAnd rfl rfl rfl) ?_
                    | refine TL.val rfl rfl (Nat.le_of_ble_eq_true rfl) (Val.pickOr rfl rfl rfl) ?_
                    | refine TL.val rfl rfl (Nat.le_of_ble_eq_true rfl) (Val.pick rfl rfl rfl) ?_
                  refine TL.val rfl rfl (Nat.le_of_ble_eq_true rfl) (Val.move rfl) ?_
                  refine TL.gen (fun g12 hg12 => ?_)
                  cases g12 with
                  | false =>
                    refine TL.pass rfl rfl (Nat.le_of_ble_eq_true rfl) rfl (Nat.le_of_ble_eq_true rfl) rfl rfl ?_
                    refine TL.pass rfl rfl (Nat.le_of_ble_eq_true rfl) rfl (Nat.le_of_ble_eq_true rfl) rfl rfl ?_
                    refine TL.pass rfl rfl (Nat.le_of_ble_eq_true rfl) rfl (Nat.le_of_ble_eq_true rfl) rfl rfl ?_
                    refine TL.passU rfl rfl (Nat.le_of_ble_eq_true rfl) rfl (Nat.le_of_ble_eq_true rfl) rfl ?_
                    refine TL.passU rfl rfl (Nat.le_of_ble_eq_true rfl) rfl (Nat.le_of_ble_eq_true rfl) rfl ?_
                    refine TL.pass rfl rfl (Nat.le_of_ble_eq_true rfl) rfl (Nat.le_of_ble_eq_true rfl) rfl rfl ?_
                    first
                      | refine TL.val rfl rfl (Nat.le_of_ble_eq_true rfl) (Val.pickAnd rfl rfl rfl) ?_
                      | refine TL.val rfl rfl (Nat.le_of_ble_eq_true rfl) (Val.pickOr rfl rfl rfl) ?_
                      | refine TL.val rfl rfl (Nat.le_of_ble_eq_true rfl) (Val.pick rfl rfl rfl) ?_
                    refine TL.val rfl rfl (Nat.le_of_ble_eq_true rfl) (Val.assign rfl) ?_
                    refine TL.nil ?_
                    refine AtX.then ?_
                    refine TC.env (E' := [(8, _)]) (Sub.cons rfl (Sub.nil _)) ?_
                    refine TC.ret1 (fn := Try.f5) (fun _ _ h => h) rfl (RV.tmp rfl) (M' := M) (by repeat (first | refine ro_tail ?_ | refine ro_app ?_ | exact ro_refl | exact ro_pre)) ?_
                    first | exact ⟨rfl, rfl⟩ | (refine ⟨?_, rfl⟩; clear hL hlz hok hok2 hR hR2 hm hm2 hA hA2 hp hpl hkd hp2 hpl2 hkd2 hn hn2 hc hc2 hk0 hkl hlzl hl1 hLl hc7 hcz hcx c2; clear hk; grind)
                  | true =>
                    refine TL.valYes rfl rfl (Nat.le_of_ble_eq_true rfl) rfl (Nat.le_of_ble_eq_true rfl) rfl (Val.move rfl) ?_
                    refine TL.valYes rfl rfl (Nat.le_of_ble_eq_true rfl) rfl (Nat.le_of_ble_eq_true rfl) rfl (Val.not rfl) ?_
                    refine TL.valYes rfl rfl (Nat.le_of_ble_eq_true rfl) rfl (Nat.le_of_ble_eq_true rfl) rfl (Val.move rfl) ?_
                    refine TL.gen (fun g13 hg13 => ?_)
                    cases g13 with
                    | false =>
                      refine TL.valYes rfl rfl (Nat.le_of_ble_eq_true rfl) rfl (Nat.le_of_ble_eq_true rfl) rfl (Val.move rfl) ?_
                      refine TL.valYes rfl rfl (Nat.le_of_ble_eq_true rfl) rfl (Nat.le_of_ble_eq_true rfl) rfl (Val.not rfl) ?_
                      first
                        | refine TL.valYes rfl rfl (Nat.le_of_ble_eq_true rfl) rfl (Nat.le_of_ble_eq_true rfl) rfl (Val.pickAnd rfl rfl rfl) ?_
                        | refine TL.valYes rfl rfl (Nat.le_of_ble_eq_true rfl) rfl (Nat.le_of_ble_eq_true rfl) rfl (Val.pickOr rfl rfl rfl) ?_
                        | refine TL.valYes rfl rfl (Nat.le_of_ble_eq_true rfl) rfl (Nat.le_of_ble_eq_true rfl) rfl (Val.pick rfl rfl rfl) ?_
                      first
                        | refine TL.val rfl rfl (Nat.le_of_ble_eq_true rfl) (Val.pickAnd rfl rfl rfl) ?_
                        | refine TL.val rfl rfl (Nat.le_of_ble_eq_true rfl) (Val.pickOr rfl rfl rfl) ?_
                        | refine TL.val rfl rfl (Nat.le_of_ble_eq_true rfl) (Val.pick rfl rfl rfl) ?_
                      refine TL.val rfl rfl (Nat.le_of_ble_eq_true rfl) (Val.assign rfl) ?_
                      refine TL.nil ?_
                      refine AtX.then ?_
                      refine TC.env (E' := [(8, _)]) (Sub.cons rfl (Sub.nil _)) ?_
                      refine TC.ret1 (fn := Try.f5) (fun _ _ h => h) rfl (RV.tmp rfl) (M' := M) (by repeat (first | refine ro_tail ?_ | refine ro_app ?_ | exact ro_refl | exact ro_pre)) ?_
                      first | exact ⟨rfl, rfl⟩ | (refine ⟨?_, rfl⟩; clear hL hlz hok hok2 hR hR2 hm hm2 hA hA2 hp hpl hkd hp2 hpl2 hkd2 hn hn2 hc hc2 hk0 hkl hlzl hl1 hLl hc7 hcz hcx c2; clear hk; grind)
                    | true =>
                      refine TL.pass rfl rfl (Nat.le_of_ble_eq_true rfl) rfl (Nat.le_of_ble_eq_true rfl) rfl rfl ?_
                      refine TL.pass rfl rfl (Nat.le_of_ble_eq_true rfl) rfl (Nat.le_of_ble_eq_true rfl) rfl rfl ?_
                      first
                        | refine TL.valYes rfl rfl (Nat.le_of_ble_eq_true rfl) rfl (Nat.le_of_ble_eq_true rfl) rfl (Val.pickAnd rfl rfl rfl) ?_
                        | refine TL.valYes rfl rfl (Nat.le_of_ble_eq_true rfl) rfl (Nat.le_of_ble_eq_true rfl) rfl (Val.pickOr rfl rfl rfl) ?_
                        | refine TL.valYes rfl rfl (Nat.le_of_ble_eq_true rfl) rfl (Nat.le_of_ble_eq_true rfl) rfl (Val.pick rfl rfl rfl) ?_
                      first
                        | refine TL.val rfl rfl (Nat.le_of_ble_eq_true rfl) (Val.pickAnd rfl rfl rfl) ?_
                        | refine TL.val rfl rfl (Nat.le_of_ble_eq_true rfl) (Val.pickOr rfl rfl rfl) ?_
                        | refine TL.val rfl rfl (Nat.le_of_ble_eq_true rfl) (Val.pick rfl rfl rfl) ?_
                      refine TL.val rfl rfl (Nat.le_of_ble_eq_true rfl) (Val.assign rfl) ?_
                      refine TL.nil ?_
                      refine AtX.then ?_
                      refine TC.env (E' := [(8, _)]) (Sub.cons rfl (Sub.nil _)) ?_
                      refine TC.ret1 (fn := Try.f5) (fun _ _ h => h) rfl (RV.tmp rfl) (M' := M) (by repeat (first | refine ro_tail ?_ | refine ro_app ?_ | exact ro_refl | exact ro_pre)) ?_
                      first | exact ⟨rfl, rfl⟩ | (refine ⟨?_, rfl⟩; clear hL hlz hok hok2 hR hR2 hm hm2 hA hA2 hp hpl hkd hp2 hpl2 hkd2 hn hn2 hc hc2 hk0 hkl hlzl hl1 hLl hc7 hcz hcx c2; clear hk; grind)
                | true =>
                  refine TL.valYes rfl rfl (Nat.le_of_ble_eq_true rfl) rfl (Nat.le_of_ble_eq_true rfl) rfl (Val.move rfl) ?_
                  refine TL.valYes rfl rfl (Nat.le_of_ble_eq_true rfl) rfl (Nat.le_of_ble_eq_true rfl) rfl (Val.eqlI rfl rfl) ?_
                  first
                    | refine TL.valYes rfl rfl (Nat.le_of_ble_eq_true rfl) rfl (Nat.le_of_ble_eq_true rfl) rfl (Val.pickAnd rfl rfl rfl) ?_
                    | refine TL.valYes rfl rfl (Nat.le_of_ble_eq_true rfl) rfl (Nat.le_of_ble_eq_true rfl) rfl (Val.pickOr rfl rfl rfl) ?_
                    | refine TL.valYes rfl rfl (Nat.le_of_ble_eq_true rfl) rfl (Nat.le_of_ble_eq_true rfl) rfl (Val.pick rfl rfl rfl) ?_
                  first
                    | refine TL.valYes rfl rfl (Nat.le_of_ble_eq_true rfl) rfl (Nat.le_of_ble_eq_true rfl) rfl (Val.pickAnd rfl rfl rfl) ?_
                    | refine TL.valYes rfl rfl (Nat.le_of_ble_eq_true rfl) rfl (Nat.le_of_ble_eq_true rfl) rfl (Val.pickOr rfl rfl rfl) ?_
                    | refine TL.valYes rfl rfl (Nat.le_of_ble_eq_true rfl) rfl (Nat.le_of_ble_eq_true rfl) rfl (Val.pick rfl rfl rfl) ?_
                  first
                    | refine TL.val rfl rfl (Nat.le_of_ble_eq_true rfl) (Val.pickAnd rfl rfl rfl) ?_
                    | refine TL.val rfl rfl (Nat.le_of_ble_eq_true rfl) (Val.pickOr rfl rfl rfl) ?_
                    | refine TL.val rfl rfl (Nat.le_of_ble_eq_true rfl) (Val.pick rfl rfl rfl) ?_
                  refine TL.val rfl rfl (Nat.le_of_ble_eq_true rfl) (Val.move rfl) ?_
                  refine TL.gen (fun g14 hg14 => ?_)
                  cases g14 with
                  | false =>
                    refine TL.pass rfl rfl (Nat.le_of_ble_eq_true rfl) rfl (Nat.le_of_ble_eq_true rfl) rfl rfl ?_
                    refine TL.pass rfl rfl (Nat.le_of_ble_eq_true rfl) rfl (Nat.le_of_ble_eq_true rfl) rfl rfl ?_
                    refine TL.pass rfl rfl (Nat.le_of_ble_eq_true rfl) rfl (Nat.le_of_ble_eq_true rfl) rfl rfl ?_
                    refine TL.passU rfl rfl (Nat.le_of_ble_eq_true rfl) rfl (Nat.le_of_ble_eq_true rfl) rfl ?_
                    refine TL.passU rfl rfl (Nat.le_of_ble_eq_true rfl) rfl (Nat.le_of_ble_eq_true rfl) rfl ?_
                    refine TL.pass rfl rfl (Nat.le_of_ble_eq_true rfl) rfl (Nat.le_of_ble_eq_true rfl) rfl rfl ?_
                    first
                      | refine TL.val rfl rfl (Nat.le_of_ble_eq_true rfl) (Val.pickAnd rfl rfl rfl) ?_
                      | refine TL.val rfl rfl (Nat.le_of_ble_eq_true rfl) (Val.pickOr rfl rfl rfl) ?_
                      | refine TL.val rfl rfl (Nat.le_of_ble_eq_true rfl) (Val.pick rfl rfl rfl) ?_
                    refine TL.val rfl rfl (Nat.le_of_ble_eq_true rfl) (Val.assign rfl) ?_
                    refine TL.nil ?_
                    refine AtX.then ?_
                    refine TC.env (E' := [(8, _)]) (Sub.cons rfl (Sub.nil _)) ?_
                    refine TC.ret1 (fn := Try.f5) (fun _ _ h => h) rfl (RV.tmp rfl) (M' := M) (by repeat (first | refine ro_tail ?_ | refine ro_app ?_ | exact ro_refl | exact ro_pre)) ?_
                    first | exact ⟨rfl, rfl⟩ | (refine ⟨?_, rfl⟩; clear hL hlz hok hok2 hR hR2 hm hm2 hA hA2 hp hpl hkd hp2 hpl2 hkd2 hn hn2 hc hc2 hk0 hkl hlzl hl1 hLl hc7 hcz hcx c2; clear hk; grind)
                  | true =>
                    refine TL.valYes rfl rfl (Nat.le_of_ble_eq_true rfl) rfl (Nat.le_of_ble_eq_true rfl) rfl (Val.move rfl) ?_
                    refine TL.valYes rfl rfl (Nat.le_of_ble_eq_true rfl) rfl (Nat.le_of_ble_eq_true rfl) rfl (Val.not rfl) ?_
                    refine TL.valYes rfl rfl (Nat.le_of_ble_eq_true rfl) rfl (Nat.le_of_ble_eq_true rfl) rfl (Val.move rfl) ?_
                    refine TL.gen (fun g15 hg15 => ?_)
                    cases g15 with
                    | false =>
                      refine TL.valYes rfl rfl (Nat.le_of_ble_eq_true rfl) rfl (Nat.le_of_ble_eq_true rfl) rfl (Val.move rfl) ?_
                      refine TL.valYes rfl rfl (Nat.le_of_ble_eq_true rfl) rfl (Nat.le_of_ble_eq_true rfl) rfl (Val.not rfl) ?_
                      first
                        | refine TL.valYes rfl rfl (Nat.le_of_ble_eq_true rfl) rfl (Nat.le_of_ble_eq_true rfl) rfl (Val.pickAnd rfl rfl rfl) ?_
                        | refine TL.valYes rfl rfl (Nat.le_of_ble_eq_true rfl) rfl (Nat.le_of_ble_eq_true rfl) rfl (Val.pickOr rfl rfl rfl) ?_
                        | refine TL.valYes rfl rfl (Nat.le_of_ble_eq_true rfl) rfl (Nat.le_of_ble_eq_true rfl) rfl (Val.pick rfl rfl rfl) ?_
                      first
                        | refine TL.val rfl rfl (Nat.le_of_ble_eq_true rfl) (Val.pickAnd rfl rfl rfl) ?_
                        | refine TL.val rfl rfl (Nat.le_of_ble_eq_true rfl) (Val.pickOr rfl rfl rfl) ?_
                        | refine TL.val rfl rfl (Nat.le_of_ble_eq_true rfl) (Val.pick rfl rfl rfl) ?_
                      refine TL.val rfl rfl (Nat.le_of_ble_eq_true rfl) (Val.assign rfl) ?_
                      refine TL.nil ?_
                      refine AtX.then ?_
                      refine TC.env (E' := [(8, _)]) (Sub.cons rfl (Sub.nil _)) ?_
                      refine TC.ret1 (fn := Try.f5) (fun _ _ h => h) rfl (RV.tmp rfl) (M' := M) (by repeat (first | refine ro_tail ?_ | refine ro_app ?_ | exact ro_refl | exact ro_pre)) ?_
                      first | exact ⟨rfl, rfl⟩ | (refine ⟨?_, rfl⟩; clear hL hlz hok hok2 hR hR2 hm hm2 hA hA2 hp hpl hkd hp2 hpl2 hkd2 hn hn2 hc hc2 hk0 hkl hlzl hl1 hLl hc7 hcz hcx c2; clear hk; grind)
                    | true =>
                      refine TL.pass rfl rfl (Nat.le_of_ble_eq_true rfl) rfl (Nat.le_of_ble_eq_true rfl) rfl rfl ?_
                      refine TL.pass rfl rfl (Nat.le_of_ble_eq_true rfl) rfl (Nat.le_of_ble_eq_true rfl) rfl rfl ?_
                      first
                        | refine TL.valYes rfl rfl (Nat.le_of_ble_eq_true rfl) rfl (Nat.le_of_ble_eq_true rfl) rfl (Val.pickAnd rfl rfl rfl) ?_
                        | refine TL.valYes rfl rfl (Nat.le_of_ble_eq_true rfl) rfl (Nat.le_of_ble_eq_true rfl) rfl (Val.pickOr rfl rfl rfl) ?_
                        | refine TL.valYes rfl rfl (Nat.le_of_ble_eq_true rfl) rfl (Nat.le_of_ble_eq_true rfl) rfl (Val.pick rfl rfl rfl) ?_
                      first
                        | refine TL.val rfl rfl (Nat.le_of_ble_eq_true rfl) (Val.pickAnd rfl rfl rfl) ?_
                        | refine TL.val rfl rfl (Nat.le_of_ble_eq_true rfl) (Val.pickOr rfl rfl rfl) ?_
                        | refine TL.val rfl rfl (Nat.le_of_ble_eq_true rfl) (Val.pick rfl rfl rfl) ?_
                      refine TL.val rfl rfl (Nat.le_of_ble_eq_true rfl) (Val.assign rfl) ?_
                      refine TL.nil ?_
                      refine AtX.then ?_
                      refine TC.env (E' := [(8, _)]) (Sub.cons rfl (Sub.nil _)) ?_
                      refine TC.ret1 (fn := Try.f5) (fun _ _ h => h) rfl (RV.tmp rfl) (M' := M) (by repeat (first | refine ro_tail ?_ | refine ro_app ?_ | exact ro_refl | exact ro_pre)) ?_
                      first | exact ⟨rfl, rfl⟩ | (refine ⟨?_, rfl⟩; clear hL hlz hok hok2 hR hR2 hm hm2 hA hA2 hp hpl hkd hp2 hpl2 hkd2 hn hn2 hc hc2 hk0 hkl hlzl hl1 hLl hc7 hcz hcx c2; clear hk; grind)
              | true =>
                refine TL.pass rfl rfl (Nat.le_of_ble_eq_true rfl) rfl (Nat.le_of_ble_eq_true rfl) rfl rfl ?_
                refine TL.pass rfl rfl (Nat.le_of_ble_eq_true rfl) rfl (Nat.le_of_ble_eq_true rfl) rfl rfl ?_
                refine TL.passU rfl rfl (Nat.le_of_ble_eq_true rfl) rfl (Nat.le_of_ble_eq_true rfl) rfl ?_
                refine TL.passU rfl rfl (Nat.le_of_ble_eq_true rfl) rfl (Nat.le_of_ble_eq_true rfl) rfl ?_
                refine TL.pass rfl rfl (Nat.le_of_ble_eq_true rfl) rfl (Nat.le_of_ble_eq_true rfl) rfl rfl ?_
                first
                  | refine TL.valYes rfl rfl (Nat.le_of_ble_eq_true rfl) rfl (Nat.le_of_ble_eq_true rfl) rfl (Val.pickAnd rfl rfl rfl) ?_
                  | refine TL.valYes rfl rfl (Nat.le_of_ble_eq_true rfl) rfl (Nat.le_of_ble_eq_true rfl) rfl (Val.pickOr rfl rfl rfl) ?_
                  | refine TL.valYes rfl rfl (Nat.le_of_ble_eq_true rfl) rfl (Nat.le_of_ble_eq_true rfl) rfl (Val.pick rfl rfl rfl) ?_
                first
                  | refine TL.val rfl rfl (Nat.le_of_ble_eq_true rfl) (Val.pickAnd rfl rfl rfl) ?_
                  | refine TL.val rfl rfl (Nat.le_of_ble_eq_true rfl) (Val.pickOr rfl rfl rfl) ?_
                  | refine TL.val rfl rfl (Nat.le_of_ble_eq_true rfl) (Val.pick rfl rfl rfl) ?_
                refine TL.val rfl rfl (Nat.le_of_ble_eq_true rfl) (Val.move rfl) ?_
                refine TL.gen (fun g16 hg16 => ?_)
                cases g16 with
                | false =>
                  refine TL.pass rfl rfl (Nat.le_of_ble_eq_true rfl) rfl (Nat.le_of_ble_eq_true rfl) rfl rfl ?_
                  refine TL.pass rfl rfl (Nat.le_of_ble_eq_true rfl) rfl (Nat.le_of_ble_eq_true rfl) rfl rfl ?_
                  refine TL.pass rfl rfl (Nat.le_of_ble_eq_true rfl) rfl (Nat.le_of_ble_eq_true rfl) rfl rfl ?_
                  refine TL.passU rfl rfl (Nat.le_of_ble_eq_true rfl) rfl (Nat.le_of_ble_eq_true rfl) rfl ?_
                  refine TL.passU rfl rfl (Nat.le_of_ble_eq_true rfl) rfl (Nat.le_of_ble_eq_true rfl) rfl ?_
                  refine TL.pass rfl rfl (Nat.le_of_ble_eq_true rfl) rfl (Nat.le_of_ble_eq_true rfl) rfl rfl ?_
                  first
                    | refine TL.val rfl rfl (Nat.le_of_ble_eq_true rfl) (Val.pickAnd rfl rfl rfl) ?_
                    | refine TL.val rfl rfl (Nat.le_of_ble_eq_true rfl) (Val.pickOr rfl rfl rfl) ?_
                    | refine TL.val rfl rfl (Nat.le_of_ble_eq_true rfl) (Val.pick rfl rfl rfl) ?_
                  refine TL.val rfl rfl (Nat.le_of_ble_eq_true rfl) (Val.assign rfl) ?_
                  refine TL.nil ?_
                  refine AtX.then ?_
                  refine TC.env (E' := [(8, _)]) (Sub.cons rfl (Sub.nil _)) ?_
                  refine TC.ret1 (fn := Try.f5) (fun _ _ h => h) rfl (RV.tmp rfl) (M' := M) (by repeat (first | refine ro_tail ?_ | refine ro_app ?_ | exact ro_refl | exact ro_pre)) ?_
                  first | exact ⟨rfl, rfl⟩ | (refine ⟨?_, rfl⟩; clear hL hlz hok hok2 hR hR2 hm hm2 hA hA2 hp hpl hkd hp2 hpl2 hkd2 hn hn2 hc hc2 hk0 hkl hlzl hl1 hLl hc7 hcz hcx c2; clear hk; grind)
                | true =>
                  refine TL.valYes rfl rfl (Nat.le_of_ble_eq_true rfl) rfl (Nat.le_of_ble_eq_true rfl) rfl (Val.move rfl) ?_
                  refine TL.valYes rfl rfl (Nat.le_of_ble_eq_true rfl) rfl (Nat.le_of_ble_eq_true rfl) rfl (Val.not rfl) ?_
                  refine TL.valYes rfl rfl (Nat.le_of_ble_eq_true rfl) rfl (Nat.le_of_ble_eq_true rfl) rfl (Val.move rfl) ?_
                  refine TL.gen (fun g17 hg17 => ?_)
                  cases g17 with
                  | false =>
                    refine TL.valYes rfl rfl (Nat.le_of_ble_eq_true rfl) rfl (Nat.le_of_ble_eq_true rfl) rfl (Val.move rfl) ?_
                    refine TL.valYes rfl rfl (Nat.le_of_ble_eq_true rfl) rfl (Nat.le_of_ble_eq_true rfl) rfl (Val.not rfl) ?_
                    first
                      | refine TL.valYes rfl rfl (Nat.le_of_ble_eq_true rfl) rfl (Nat.le_of_ble_eq_true rfl) rfl (Val.pickAnd rfl rfl rfl) ?_
                      | refine TL.valYes rfl rfl (Nat.le_of_ble_eq_true rfl) rfl (Nat.le_of_ble_eq_true rfl) rfl (Val.pickOr rfl rfl rfl) ?_
                      | refine TL.valYes rfl rfl (Nat.le_of_ble_eq_true rfl) rfl (Nat.le_of_ble_eq_true rfl) rfl (Val.pick rfl rfl rfl) ?_
                    first
                      | refine TL.val rfl rfl (Nat.le_of_ble_eq_true rfl) (Val.pickAnd rfl rfl rfl) ?_
                      | refine TL.val rfl rfl (Nat.le_of_ble_eq_true rfl) (Val.pickOr rfl rfl rfl) ?_
                      | refine TL.val rfl rfl (Nat.le_of_ble_eq_true rfl) (Val.pick rfl rfl rfl) ?_
                    refine TL.val rfl rfl (Nat.le_of_ble_eq_true rfl) (Val.assign rfl) ?_
                    refine TL.nil ?_
                    refine AtX.then ?_
                    refine TC.env (E' := [(8, _)]) (Sub.cons rfl (Sub.nil _)) ?_
                    refine TC.ret1 (fn := Try.f5) (fun _ _ h => h) rfl (RV.tmp rfl) (M' := M) (by repeat (first | refine ro_tail ?_ | refine ro_app ?_ | exact ro_refl | exact ro_pre)) ?_
                    first | exact ⟨rfl, rfl⟩ | (refine ⟨?_, rfl⟩; clear hL hlz hok hok2 hR hR2 hm hm2 hA hA2 hp hpl hkd hp2 hpl2 hkd2 hn hn2 hc hc2 hk0 hkl hlzl hl1 hLl hc7 hcz hcx c2; clear hk; grind)
                  | true =>
                    refine TL.pass rfl rfl (Nat.le_of_ble_eq_true rfl) rfl (Nat.le_of_ble_eq_true rfl) rfl rfl ?_
                    refine TL.pass rfl rfl (Nat.le_of_ble_eq_true rfl) rfl (Nat.le_of_ble_eq_true rfl) rfl rfl ?_
                    first
                      | refine TL.valYes rfl rfl (Nat.le_of_ble_eq_true rfl) rfl (Nat.le_of_ble_eq_true rfl) rfl (Val.pickAnd rfl rfl rfl) ?_
                      | refine TL.valYes rfl rfl (Nat.le_of_ble_eq_true rfl) rfl (Nat.le_of_ble_eq_true rfl) rfl (Val.pickOr rfl rfl rfl) ?_
                      | refine TL.valYes rfl rfl (Nat.le_of_ble_eq_true rfl) rfl (Nat.le_of_ble_eq_true rfl) rfl (Val.pick rfl rfl rfl) ?_
                    first
                      | refine TL.val rfl rfl (Nat.le_of_ble_eq_true rfl) (Val.pickAnd rfl rfl rfl) ?_
                      | refine TL.val rfl rfl (Nat.le_of_ble_eq_true rfl) (Val.pickOr rfl rfl rfl) ?_
                      | refine TL.val rfl rfl (Nat.le_of_ble_eq_true rfl) (Val.pick rfl rfl rfl) ?_
                    refine TL.val rfl rfl (Nat.le_of_ble_eq_true rfl) (Val.assign rfl) ?_
                    refine TL.nil ?_
                    refine AtX.then ?_
                    refine TC.env (E' := [(8, _)]) (Sub.cons rfl (Sub.nil _)) ?_
                    refine TC.ret1 (fn := Try.f5) (fun _ _ h => h) rfl (RV.tmp rfl) (M' := M) (by repeat (first | refine ro_tail ?_ | refine ro_app ?_ | exact ro_refl | exact ro_pre)) ?_
                    first | exact ⟨rfl, rfl⟩ | (refine ⟨?_, rfl⟩; clear hL hlz hok hok2 hR hR2 hm hm2 hA hA2 hp hpl hkd hp2 hpl2 hkd2 hn hn2 hc hc2 hk0 hkl hlzl hl1 hLl hc7 hcz hcx c2; clear hk; grind)
          | true =>
            refine TL.valYes rfl rfl (Nat.le_of_ble_eq_true rfl) rfl (Nat.le_of_ble_eq_true rfl) rfl (Val.move rfl) ?_
            refine TL.valYes rfl rfl (Nat.le_of_ble_eq_true rfl) rfl (Nat.le_of_ble_eq_true rfl) rfl (Val.move rfl) ?_
            refine TL.gen (fun g18 hg18 => ?_)
            cases g18 with
            | false =>
              refine TL.valYes rfl rfl (Nat.le_of_ble_eq_true rfl) rfl (Nat.le_of_ble_eq_true rfl) rfl (Val.fieldAddr rfl fl31_0 sz22 rfl) ?_
              first
                | refine TL.valYes rfl rfl (Nat.le_of_ble_eq_true rfl) rfl (Nat.le_of_ble_eq_true rfl) rfl (Val.load 0 rfl ag22 rfl rfl) ?_
                | refine TL.valYes rfl rfl (Nat.le_of_ble_eq_true rfl) rfl (Nat.le_of_ble_eq_true rfl) rfl (Val.load 1 rfl ag22 rfl rfl) ?_
                | refine TL.valYes rfl rfl (Nat.le_of_ble_eq_true rfl) rfl (Nat.le_of_ble_eq_true rfl) rfl (Val.load 2 rfl ag22 rfl rfl) ?_
                | refine TL.valYes rfl rfl (Nat.le_of_ble_eq_true rfl) rfl (Nat.le_of_ble_eq_true rfl) rfl (Val.load 3 rfl ag22 rfl rfl) ?_
                | refine TL.valYes rfl rfl (Nat.le_of_ble_eq_true rfl) rfl (Nat.le_of_ble_eq_true rfl) rfl (Val.load 4 rfl ag22 rfl rfl) ?_
                | refine TL.valYes rfl rfl (Nat.le_of_ble_eq_true rfl) rfl (Nat.le_of_ble_eq_true rfl) rfl (Val.load 5 rfl ag22 rfl rfl) ?_
              refine TL.valYes rfl rfl (Nat.le_of_ble_eq_true rfl) rfl (Nat.le_of_ble_eq_true rfl) rfl (Val.fieldAddr rfl fl25_0 sz22 rfl) ?_
              first
                | refine TL.valYes rfl rfl (Nat.le_of_ble_eq_true rfl) rfl (Nat.le_of_ble_eq_true rfl) rfl (Val.load 0 rfl ag22 rfl rfl) ?_
                | refine TL.valYes rfl rfl (Nat.le_of_ble_eq_true rfl) rfl (Nat.le_of_ble_eq_true rfl) rfl (Val.load 1 rfl ag22 rfl rfl) ?_
                | refine TL.valYes rfl rfl (Nat.le_of_ble_eq_true rfl) rfl (Nat.le_of_ble_eq_true rfl) rfl (Val.load 2 rfl ag22 rfl rfl) ?_
                | refine TL.valYes rfl rfl (Nat.le_of_ble_eq_true rfl) rfl (Nat.le_of_ble_eq_true rfl) rfl (Val.load 3 rfl ag22 rfl rfl) ?_
                | refine TL.valYes rfl rfl (Nat.le_of_ble_eq_true rfl) rfl (Nat.le_of_ble_eq_true rfl) rfl (Val.load 4 rfl ag22 rfl rfl) ?_
                | refine TL.valYes rfl rfl (Nat.le_of_ble_eq_true rfl) rfl (Nat.le_of_ble_eq_true rfl) rfl (Val.load 5 rfl ag22 rfl rfl) ?_
              refine TL.valYes rfl rfl (Nat.le_of_ble_eq_true rfl) rfl (Nat.le_of_ble_eq_true rfl) rfl (Val.neqI rfl rfl) ?_
              refine TL.valYes rfl rfl (Nat.le_of_ble_eq_true rfl) rfl (Nat.le_of_ble_eq_true rfl) rfl (Val.move rfl) ?_
              refine TL.gen (fun g19 hg19 => ?_)
              cases g19 with
              | false =>
                refine TL.pass rfl rfl (Nat.le_of_ble_eq_true rfl) rfl (Nat.le_of_ble_eq_true rfl) rfl rfl ?_
                refine TL.pass rfl rfl (Nat.le_of_ble_eq_true rfl) rfl (Nat.le_of_ble_eq_true rfl) rfl rfl ?_
                refine TL.pass rfl rfl (Nat.le_of_ble_eq_true rfl) rfl (Nat.le_of_ble_eq_true rfl) rfl rfl ?_
                refine TL.pass rfl rfl (Nat.le_of_ble_eq_true rfl) rfl (Nat.le_of_ble_eq_true rfl) rfl rfl ?_
                refine TL.pass rfl rfl (Nat.le_of_ble_eq_true rfl) rfl (Nat.le_of_ble_eq_true rfl) rfl rfl ?_
                first
                  | refine TL.valYes rfl rfl (Nat.le_of_ble_eq_true rfl) rfl (Nat.le_of_ble_eq_true rfl) rfl (Val.pickAnd rfl rfl rfl) ?_
                  | refine TL.valYes rfl rfl (Nat.le_of_ble_eq_true rfl) rfl (Nat.le_of_ble_eq_true rfl) rfl (Val.pickOr rfl rfl rfl) ?_
                  | refine TL.valYes rfl rfl (Nat.le_of_ble_eq_true rfl) rfl (Nat.le_of_ble_eq_true rfl) rfl (Val.pick rfl rfl rfl) ?_
                first
                  | refine TL.valYes rfl rfl (Nat.le_of_ble_eq_true rfl) rfl (Nat.le_of_ble_eq_true rfl) rfl (Val.pickAnd rfl rfl rfl) ?_
                  | refine TL.valYes rfl rfl (Nat.le_of_ble_eq_true rfl) rfl (Nat.le_of_ble_eq_true rfl) rfl (Val.pickOr rfl rfl rfl) ?_
                  | refine TL.valYes rfl rfl (Nat.le_of_ble_eq_true rfl) rfl (Nat.le_of_ble_eq_true rfl) rfl (Val.pick rfl rfl rfl) ?_
                first
                  | refine TL.val rfl rfl (Nat.le_of_ble_eq_true rfl) (Val.pickAnd rfl rfl rfl) ?_
                  | refine TL.val rfl rfl (Nat.le_of_ble_eq_true rfl) (Val.pickOr rfl rfl rfl) ?_
                  | refine TL.val rfl rfl (Nat.le_of_ble_eq_true rfl) (Val.pick rfl rfl rfl) ?_
                refine TL.nil ?_
                refine AtX.then ?_
                refine TC.env (E' := [(3, _), (18, _), (19, _), (94, _)]) (Sub.cons rfl (Sub.cons rfl (Sub.cons rfl (Sub.cons rfl (Sub.nil _))))) ?_
                first | refine TC.condP rfl (fun c5 => ?_) (fun c5 => ?_) | refine TC.condN rfl (fun c5 => ?_) (fun c5 => ?_) | refine TC.condB rfl (fun c5 => ?_) (fun c5 => ?_) | refine TC.cond rfl (fun c5 => ?_) (fun c5 => ?_)
                · skip
                  (exfalso; clear hL hlz hok hok2 hR hR2 hm hm2 hA hA2 hp hpl hkd hp2 hpl2 hkd2 hn hn2 hc hc2 hk0 hkl hlzl hl1 hLl hc7 hcz hcx c2; clear hk; grind)
                · skip
                  refine TC.env (E' := [(3, _), (18, _), (19, _)]) (Sub.cons rfl (Sub.cons rfl (Sub.cons rfl (Sub.nil _)))) ?_
                  refine TC.skip ?_
                  refine AtX.then ?_
                  refine TC.env (E' := [(3, _), (18, _), (19, _)]) (Sub.cons rfl (Sub.cons rfl (Sub.cons rfl (Sub.nil _)))) ?_
                  refine TC.seq ?_
                  refine TC.region ?_
                  refine TL.does (some 95) rfl rfl rfl (Does.callF go9 rfl (told_fn _)) ?_
                  rintro _ _ ⟨rfl, rfl⟩
                  refine TL.val rfl rfl (Nat.le_of_ble_eq_true rfl) (Val.move rfl) ?_
                  refine TL.valYes rfl rfl (Nat.le_of_ble_eq_true rfl) rfl (Nat.le_of_ble_eq_true rfl) rfl (Val.move rfl) ?_
                  refine TL.valYes rfl rfl (Nat.le_of_ble_eq_true rfl) rfl (Nat.le_of_ble_eq_true rfl) rfl (Val.eqlI rfl rfl) ?_
                  refine TL.valYes rfl rfl (Nat.le_of_ble_eq_true rfl) rfl (Nat.le_of_ble_eq_true rfl) rfl (Val.move rfl) ?_
                  refine TL.gen (fun g21 hg21 => ?_)
                  cases g21 with
                  | false =>
                    refine TL.valYes rfl rfl (Nat.le_of_ble_eq_true rfl) rfl (Nat.le_of_ble_eq_true rfl) rfl (Val.move rfl) ?_
                    refine TL.valYes rfl rfl (Nat.le_of_ble_eq_true rfl) rfl (Nat.le_of_ble_eq_true rfl) rfl (Val.move rfl) ?_
                    refine TL.gen (fun g22 hg22 => ?_)
                    cases g22 with
                    | false =>
                      refine TL.pass rfl rfl (Nat.le_of_ble_eq_true rfl) rfl (Nat.le_of_ble_eq_true rfl) rfl rfl ?_
                      refine TL.pass rfl rfl (Nat.le_of_ble_eq_true rfl) rfl (Nat.le_of_ble_eq_true rfl) rfl rfl ?_
                      first
                        | refine TL.valYes rfl rfl (Nat.le_of_ble_eq_true rfl) rfl (Nat.le_of_ble_eq_true rfl) rfl (Val.pickAnd rfl rfl rfl) ?_
                        | refine TL.valYes rfl rfl (Nat.le_of_ble_eq_true rfl) rfl (Nat.le_of_ble_eq_true rfl) rfl (Val.pickOr rfl rfl rfl) ?_
                        | refine TL.valYes rfl rfl (Nat.le_of_ble_eq_true rfl) rfl (Nat.le_of_ble_eq_true rfl) rfl (Val.pick rfl rfl rfl) ?_
                      first
                        | refine TL.valYes rfl rfl (Nat.le_of_ble_eq_true rfl) rfl (Nat.le_of_ble_eq_true rfl) rfl (Val.pickAnd rfl rfl rfl) ?_
                        | refine TL.valYes rfl rfl (Nat.le_of_ble_eq_true rfl) rfl (Nat.le_of_ble_eq_true rfl) rfl (Val.pickOr rfl rfl rfl) ?_
                        | refine TL.valYes rfl rfl (Nat.le_of_ble_eq_true rfl) rfl (Nat.le_of_ble_eq_true rfl) rfl (Val.pick rfl rfl rfl) ?_
                      first
                        | refine TL.val rfl rfl (Nat.le_of_ble_eq_true rfl) (Val.pickAnd rfl rfl rfl) ?_
                        | refine TL.val rfl rfl (Nat.le_of_ble_eq_true rfl) (Val.pickOr rfl rfl rfl) ?_
                        | refine TL.val rfl rfl (Nat.le_of_ble_eq_true rfl) (Val.pick rfl rfl rfl) ?_
                      refine TL.val rfl rfl (Nat.le_of_ble_eq_true rfl) (Val.move rfl) ?_
                      refine TL.gen (fun g23 hg23 => ?_)
                      cases g23 with
                      | false =>
                        refine TL.pass rfl rfl (Nat.le_of_ble_eq_true rfl) rfl (Nat.le_of_ble_eq_true rfl) rfl rfl ?_
                        refine TL.pass rfl rfl (Nat.le_of_ble_eq_true rfl) rfl (Nat.le_of_ble_eq_true rfl) rfl rfl ?_
                        refine TL.pass rfl rfl (Nat.le_of_ble_eq_true rfl) rfl (Nat.le_of_ble_eq_true rfl) rfl rfl ?_
                        refine TL.passU rfl rfl (Nat.le_of_ble_eq_true rfl) rfl (Nat.le_of_ble_eq_true rfl) rfl ?_
                        refine TL.passU rfl rfl (Nat.le_of_ble_eq_true rfl) rfl (Nat.le_of_ble_eq_true rfl) rfl ?_
                        refine TL.pass rfl rfl (Nat.le_of_ble_eq_true rfl) rfl (Nat.le_of_ble_eq_true rfl) rfl rfl ?_
                        first
                          | refine TL.val rfl rfl (Nat.le_of_ble_eq_true rfl) (Val.pickAnd rfl rfl rfl) ?_
                          | refine TL.val rfl rfl (Nat.le_of_ble_eq_true rfl) (Val.pickOr rfl rfl rfl) ?_
                          | refine TL.val rfl rfl (Nat.le_of_ble_eq_true rfl) (Val.pick rfl rfl rfl) ?_
                        refine TL.val rfl rfl (Nat.le_of_ble_eq_true rfl) (Val.assign rfl) ?_
                        refine TL.nil ?_
                        refine AtX.then ?_
                        refine TC.env (E' := [(8, _)]) (Sub.cons rfl (Sub.nil _)) ?_
                        refine TC.ret1 (fn := Try.f5) (fun _ _ h => h) rfl (RV.tmp rfl) (M' := M) (by repeat (first | refine ro_tail ?_ | refine ro_app ?_ | exact ro_refl | exact ro_pre)) ?_
                        first | exact ⟨rfl, rfl⟩ | (refine ⟨?_, rfl⟩; clear hL hlz hok hok2 hR hR2 hm hm2 hA hA2 hp hpl hkd hp2 hpl2 hkd2 hn hn2 hc hc2 hk0 hkl hlzl hl1 hLl hc7 hcz hcx c2; clear hk; grind)
                      | true =>
                        refine TL.valYes rfl rfl (Nat.le_of_ble_eq_true rfl) rfl (Nat.le_of_ble_eq_true rfl) rfl (Val.move rfl) ?_
                        refine TL.valYes rfl rfl (Nat.le_of_ble_eq_true rfl) rfl (Nat.le_of_ble_eq_true rfl) rfl (Val.not rfl) ?_
                        refine TL.valYes rfl rfl (Nat.le_of_ble_eq_true rfl) rfl (Nat.le_of_ble_eq_true rfl) rfl (Val.move rfl) ?_
                        refine TL.gen (fun g24 hg24 => ?_)
                        cases g24 with
                        | false =>
                          refine TL.valYes rfl rfl (Nat.le_of_ble_eq_true rfl) rfl (Nat.le_of_ble_eq_true rfl) rfl (Val.move rfl) ?_
                          refine TL.valYes rfl rfl (Nat.le_of_ble_eq_true rfl) rfl (Nat.le_of_ble_eq_true rfl) rfl (Val.not rfl) ?_
                          first
                            | refine TL.valYes rfl rfl (Nat.le_of_ble_eq_true rfl) rfl (Nat.le_of_ble_eq_true rfl) rfl (Val.pickAnd rfl rfl rfl) ?_
                            | refine TL.valYes rfl rfl (Nat.le_of_ble_eq_true rfl) rfl (Nat.le_of_ble_eq_true rfl) rfl (Val.pickOr rfl rfl rfl) ?_
                            | refine TL.valYes rfl rfl (Nat.le_of_ble_eq_true rfl) rfl (Nat.le_of_ble_eq_true rfl) rfl (Val.pick rfl rfl rfl) ?_
                          first
                            | refine TL.val rfl rfl (Nat.le_of_ble_eq_true rfl) (Val.pickAnd rfl rfl rfl) ?_
                            | refine TL.val rfl rfl (Nat.le_of_ble_eq_true rfl) (Val.pickOr rfl rfl rfl) ?_
                            | refine TL.val rfl rfl (Nat.le_of_ble_eq_true rfl) (Val.pick rfl rfl rfl) ?_
                          refine TL.val rfl rfl (Nat.le_of_ble_eq_true rfl) (Val.assign rfl) ?_
                          refine TL.nil ?_
                          refine AtX.then ?_
                          refine TC.env (E' := [(8, _)]) (Sub.cons rfl (Sub.nil _)) ?_
                          refine TC.ret1 (fn := Try.f5) (fun _ _ h => h) rfl (RV.tmp rfl) (M' := M) (by repeat (first | refine ro_tail ?_ | refine ro_app ?_ | exact ro_refl | exact ro_pre)) ?_
                          first | exact ⟨rfl, rfl⟩ | (refine ⟨?_, rfl⟩; clear hL hlz hok hok2 hR hR2 hm hm2 hA hA2 hp hpl hkd hp2 hpl2 hkd2 hn hn2 hc hc2 hk0 hkl hlzl hl1 hLl hc7 hcz hcx c2; clear hk; grind)
                        | true =>
                          refine TL.pass rfl rfl (Nat.le_of_ble_eq_true rfl) rfl (Nat.le_of_ble_eq_true rfl) rfl rfl ?_
                          refine TL.pass rfl rfl (Nat.le_of_ble_eq_true rfl) rfl (Nat.le_of_ble_eq_true rfl) rfl rfl ?_
                          first
                            | refine TL.valYes rfl rfl (Nat.le_of_ble_eq_true rfl) rfl (Nat.le_of_ble_eq_true rfl) rfl (Val.pickAnd rfl rfl rfl) ?_
                            | refine TL.valYes rfl rfl (Nat.le_of_ble_eq_true rfl) rfl (Nat.le_of_ble_eq_true rfl) rfl (Val.pickOr rfl rfl rfl) ?_
                            | refine TL.valYes rfl rfl (Nat.le_of_ble_eq_true rfl) rfl (Nat.le_of_ble_eq_true rfl) rfl (Val.pick rfl rfl rfl) ?_
                          first
                            | refine TL.val rfl rfl (Nat.le_of_ble_eq_true rfl) (Val.pickAnd rfl rfl rfl) ?_
                            | refine TL.val rfl rfl (Nat.le_of_ble_eq_true rfl) (Val.pickOr rfl rfl rfl) ?_
                            | refine TL.val rfl rfl (Nat.le_of_ble_eq_true rfl) (Val.pick rfl rfl rfl) ?_
                          refine TL.val rfl rfl (Nat.le_of_ble_eq_true rfl) (Val.assign rfl) ?_
                          refine TL.nil ?_
                          refine AtX.then ?_
                          refine TC.env (E' := [(8, _)]) (Sub.cons rfl (Sub.nil _)) ?_
                          refine TC.ret1 (fn := Try.f5) (fun _ _ h => h) rfl (RV.tmp rfl) (M' := M) (by repeat (first | refine ro_tail ?_ | refine ro_app ?_ | exact ro_refl | exact ro_pre)) ?_
                          first | exact ⟨rfl, rfl⟩ | (refine ⟨?_, rfl⟩; clear hL hlz hok hok2 hR hR2 hm hm2 hA hA2 hp hpl hkd hp2 hpl2 hkd2 hn hn2 hc hc2 hk0 hkl hlzl hl1 hLl hc7 hcz hcx c2; clear hk; grind)
                    | true =>
                      refine TL.valYes rfl rfl (Nat.le_of_ble_eq_true rfl) rfl (Nat.le_of_ble_eq_true rfl) rfl (Val.move rfl) ?_
                      refine TL.valYes rfl rfl (Nat.le_of_ble_eq_true rfl) rfl (Nat.le_of_ble_eq_true rfl) rfl (Val.eqlI rfl rfl) ?_
                      first
                        | refine TL.valYes rfl rfl (Nat.le_of_ble_eq_true rfl) rfl (Nat.le_of_ble_eq_true rfl) rfl (Val.pickAnd rfl rfl rfl) ?_
                        | refine TL.valYes rfl rfl (Nat.le_of_ble_eq_true rfl) rfl (Nat.le_of_ble_eq_true rfl) rfl (Val.pickOr rfl rfl rfl) ?_
                        | refine TL.valYes rfl rfl (Nat.le_of_ble_eq_true rfl) rfl (Nat.le_of_ble_eq_true rfl) rfl (Val.pick rfl rfl rfl) ?_
                      first
                        | refine TL.valYes rfl rfl (Nat.le_of_ble_eq_true rfl) rfl (Nat.le_of_ble_eq_true rfl) rfl (Val.pickAnd rfl rfl rfl) ?_
                        | refine TL.valYes rfl rfl (Nat.le_of_ble_eq_true rfl) rfl (Nat.le_of_ble_eq_true rfl) rfl (Val.pickOr rfl rfl rfl) ?_
                        | refine TL.valYes rfl rfl (Nat.le_of_ble_eq_true rfl) rfl (Nat.le_of_ble_eq_true rfl) rfl (Val.pick rfl rfl rfl) ?_
                      first
                        | refine TL.val rfl rfl (Nat.le_of_ble_eq_true rfl) (Val.pickAnd rfl rfl rfl) ?_
                        | refine TL.val rfl rfl (Nat.le_of_ble_eq_true rfl) (Val.pickOr rfl rfl rfl) ?_
                        | refine TL.val rfl rfl (Nat.le_of_ble_eq_true rfl) (Val.pick rfl rfl rfl) ?_
                      refine TL.val rfl rfl (Nat.le_of_ble_eq_true rfl) (Val.move rfl) ?_
                      refine TL.gen (fun g25 hg25 => ?_)
                      cases g25 with
                      | false =>
                        refine TL.pass rfl rfl (Nat.le_of_ble_eq_true rfl) rfl (Nat.le_of_ble_eq_true rfl) rfl rfl ?_
                        refine TL.pass rfl rfl (Nat.le_of_ble_eq_true rfl) rfl (Nat.le_of_ble_eq_true rfl) rfl rfl ?_
                        refine TL.pass rfl rfl (Nat.le_of_ble_eq_true rfl) rfl (Nat.le_of_ble_eq_true rfl) rfl rfl ?_
                        refine TL.passU rfl rfl (Nat.le_of_ble_eq_true rfl) rfl (Nat.le_of_ble_eq_true rfl) rfl ?_
                        refine TL.passU rfl rfl (Nat.le_of_ble_eq_true rfl) rfl (Nat.le_of_ble_eq_true rfl) rfl ?_
                        refine TL.pass rfl rfl (Nat.le_of_ble_eq_true rfl) rfl (Nat.le_of_ble_eq_true rfl) rfl rfl ?_
                        first
                          | refine TL.val rfl rfl (Nat.le_of_ble_eq_true rfl) (Val.pickAnd rfl rfl rfl) ?_
                          | refine TL.val rfl rfl (Nat.le_of_ble_eq_true rfl) (Val.pickOr rfl rfl rfl) ?_
                          | refine TL.val rfl rfl (Nat.le_of_ble_eq_true rfl) (Val.pick rfl rfl rfl) ?_
                        refine TL.val rfl rfl (Nat.le_of_ble_eq_true rfl) (Val.assign rfl) ?_
                        refine TL.nil ?_
                        refine AtX.then ?_
                        refine TC.env (E' := [(8, _)]) (Sub.cons rfl (Sub.nil _)) ?_
                        refine TC.ret1 (fn := Try.f5) (fun _ _ h => h) rfl (RV.tmp rfl) (M' := M) (by repeat (first | refine ro_tail ?_ | refine ro_app ?_ | exact ro_refl | exact ro_pre)) ?_
                        first | exact ⟨rfl, rfl⟩ | (refine ⟨?_, rfl⟩; clear hL hlz hok hok2 hR hR2 hm hm2 hA hA2 hp hpl hkd hp2 hpl2 hkd2 hn hn2 hc hc2 hk0 hkl hlzl hl1 hLl hc7 hcz hcx c2; clear hk; grind)
                      | true =>
                        refine TL.valYes rfl rfl (Nat.le_of_ble_eq_true rfl) rfl (Nat.le_of_ble_eq_true rfl) rfl (Val.move rfl) ?_
                        refine TL.valYes rfl rfl (Nat.le_of_ble_eq_true rfl) rfl (Nat.le_of_ble_eq_true rfl) rfl (Val.not rfl) ?_
                        refine TL.valYes rfl rfl (Nat.le_of_ble_eq_true rfl) rfl (Nat.le_of_ble_eq_true rfl) rfl (Val.move rfl) ?_
                        refine TL.gen (fun g26 hg26 => ?_)
                        cases g26 with
                        | false =>
                          refine TL.valYes rfl rfl (Nat.le_of_ble_eq_true rfl) rfl (Nat.le_of_ble_eq_true rfl) rfl (Val.move rfl) ?_
                          refine TL.valYes rfl rfl (Nat.le_of_ble_eq_true rfl) rfl (Nat.le_of_ble_eq_true rfl) rfl (Val.not rfl) ?_
                          first
                            | refine TL.valYes rfl rfl (Nat.le_of_ble_eq_true rfl) rfl (Nat.le_of_ble_eq_true rfl) rfl (Val.pickAnd rfl rfl rfl) ?_
                            | refine TL.valYes rfl rfl (Nat.le_of_ble_eq_true rfl) rfl (Nat.le_of_ble_eq_true rfl) rfl (Val.pickOr rfl rfl rfl) ?_
                            | refine TL.valYes rfl rfl (Nat.le_of_ble_eq_true rfl) rfl (Nat.le_of_ble_eq_true rfl) rfl (Val.pick rfl rfl rfl) ?_
                          first
                            | refine TL.val rfl rfl (Nat.le_of_ble_eq_true rfl) (Val.pickAnd rfl rfl rfl) ?_
                            | refine TL.val rfl rfl (Nat.le_of_ble_eq_true rfl) (Val.pickOr rfl rfl rfl) ?_
                            | refine TL.val rfl rfl (Nat.le_of_ble_eq_true rfl) (Val.pick rfl rfl rfl) ?_
                          refine TL.val rfl rfl (Nat.le_of_ble_eq_true rfl) (Val.assign rfl) ?_
                          refine TL.nil ?_
                          refine AtX.then ?_
                          refine TC.env (E' := [(8, _)]) (Sub.cons rfl (Sub.nil _)) ?_
                          refine TC.ret1 (fn := Try.f5) (fun _ _ h => h) rfl (RV.tmp rfl) (M' := M) (by repeat (first | refine ro_tail ?_ | refine ro_app ?_ | exact ro_refl | exact ro_pre)) ?_
                          first | exact ⟨rfl, rfl⟩ | (refine ⟨?_, rfl⟩; clear hL hlz hok hok2 hR hR2 hm hm2 hA hA2 hp hpl hkd hp2 hpl2 hkd2 hn hn2 hc hc2 hk0 hkl hlzl hl1 hLl hc7 hcz hcx c2; clear hk; grind)
                        | true =>
                          refine TL.pass rfl rfl (Nat.le_of_ble_eq_true rfl) rfl (Nat.le_of_ble_eq_true rfl) rfl rfl ?_
                          refine TL.pass rfl rfl (Nat.le_of_ble_eq_true rfl) rfl (Nat.le_of_ble_eq_true rfl) rfl rfl ?_
                          first
                            | refine TL.valYes rfl rfl (Nat.le_of_ble_eq_true rfl) rfl (Nat.le_of_ble_eq_true rfl) rfl (Val.pickAnd rfl rfl rfl) ?_
                            | refine TL.valYes rfl rfl (Nat.le_of_ble_eq_true rfl) rfl (Nat.le_of_ble_eq_true rfl) rfl (Val.pickOr rfl rfl rfl) ?_
                            | refine TL.valYes rfl rfl (Nat.le_of_ble_eq_true rfl) rfl (Nat.le_of_ble_eq_true rfl) rfl (Val.pick rfl rfl rfl) ?_
                          first
                            | refine TL.val rfl rfl (Nat.le_of_ble_eq_true rfl) (Val.pickAnd rfl rfl rfl) ?_
                            | refine TL.val rfl rfl (Nat.le_of_ble_eq_true rfl) (Val.pickOr rfl rfl rfl) ?_
                            | refine TL.val rfl rfl (Nat.le_of_ble_eq_true rfl) (Val.pick rfl rfl rfl) ?_
                          refine TL.val rfl rfl (Nat.le_of_ble_eq_true rfl) (Val.assign rfl) ?_
                          refine TL.nil ?_
                          refine AtX.then ?_
                          refine TC.env (E' := [(8, _)]) (Sub.cons rfl (Sub.nil _)) ?_
                          refine TC.ret1 (fn := Try.f5) (fun _ _ h => h) rfl (RV.tmp rfl) (M' := M) (by repeat (first | refine ro_tail ?_ | refine ro_app ?_ | exact ro_refl | exact ro_pre)) ?_
                          first | exact ⟨rfl, rfl⟩ | (refine ⟨?_, rfl⟩; clear hL hlz hok hok2 hR hR2 hm hm2 hA hA2 hp hpl hkd hp2 hpl2 hkd2 hn hn2 hc hc2 hk0 hkl hlzl hl1 hLl hc7 hcz hcx c2; clear hk; grind)
                  | true =>
                    refine TL.pass rfl rfl (Nat.le_of_ble_eq_true rfl) rfl (Nat.le_of_ble_eq_true rfl) rfl rfl ?_
                    refine TL.pass rfl rfl (Nat.le_of_ble_eq_true rfl) rfl (Nat.le_of_ble_eq_true rfl) rfl rfl ?_
                    refine TL.passU rfl rfl (Nat.le_of_ble_eq_true rfl) rfl (Nat.le_of_ble_eq_true rfl) rfl ?_
                    refine TL.passU rfl rfl (Nat.le_of_ble_eq_true rfl) rfl (Nat.le_of_ble_eq_true rfl) rfl ?_
                    refine TL.pass rfl rfl (Nat.le_of_ble_eq_true rfl) rfl (Nat.le_of_ble_eq_true rfl) rfl rfl ?_
                    first
                      | refine TL.valYes rfl rfl (Nat.le_of_ble_eq_true rfl) rfl (Nat.le_of_ble_eq_true rfl) rfl (Val.pickAnd rfl rfl rfl) ?_
                      | refine TL.valYes rfl rfl (Nat.le_of_ble_eq_true rfl) rfl (Nat.le_of_ble_eq_true rfl) rfl (Val.pickOr rfl rfl rfl) ?_
                      | refine TL.valYes rfl rfl (Nat.le_of_ble_eq_true rfl) rfl (Nat.le_of_ble_eq_true rfl) rfl (Val.pick rfl rfl rfl) ?_
                    first
                      | refine TL.val rfl rfl (Nat.le_of_ble_eq_true rfl) (Val.pickAnd rfl rfl rfl) ?_
                      | refine TL.val rfl rfl (Nat.le_of_ble_eq_true rfl) (Val.pickOr rfl rfl rfl) ?_
                      | refine TL.val rfl rfl (Nat.le_of_ble_eq_true rfl) (Val.pick rfl rfl rfl) ?_
                    refine TL.val rfl rfl (Nat.le_of_ble_eq_true rfl) (Val.move rfl) ?_
                    refine TL.gen (fun g27 hg27 => ?_)
                    cases g27 with
                    | false =>
                      refine TL.pass rfl rfl (Nat.le_of_ble_eq_true rfl) rfl (Nat.le_of_ble_eq_true rfl) rfl rfl ?_
                      refine TL.pass rfl rfl (Nat.le_of_ble_eq_true rfl) rfl (Nat.le_of_ble_eq_true rfl) rfl rfl ?_
                      refine TL.pass rfl rfl (Nat.le_of_ble_eq_true rfl) rfl (Nat.le_of_ble_eq_true rfl) rfl rfl ?_
                      refine TL.passU rfl rfl (Nat.le_of_ble_eq_true rfl) rfl (Nat.le_of_ble_eq_true rfl) rfl ?_
                      refine TL.passU rfl rfl (Nat.le_of_ble_eq_true rfl) rfl (Nat.le_of_ble_eq_true rfl) rfl ?_
                      refine TL.pass rfl rfl (Nat.le_of_ble_eq_true rfl) rfl (Nat.le_of_ble_eq_true rfl) rfl rfl ?_
                      first
                        | refine TL.val rfl rfl (Nat.le_of_ble_eq_true rfl) (Val.pickAnd rfl rfl rfl) ?_
                        | refine TL.val rfl rfl (Nat.le_of_ble_eq_true rfl) (Val.pickOr rfl rfl rfl) ?_
                        | refine TL.val rfl rfl (Nat.le_of_ble_eq_true rfl) (Val.pick rfl rfl rfl) ?_
                      refine TL.val rfl rfl (Nat.le_of_ble_eq_true rfl) (Val.assign rfl) ?_
                      refine TL.nil ?_
                      refine AtX.then ?_
                      refine TC.env (E' := [(8, _)]) (Sub.cons rfl (Sub.nil _)) ?_
                      refine TC.ret1 (fn := Try.f5) (fun _ _ h => h) rfl (RV.tmp rfl) (M' := M) (by repeat (first | refine ro_tail ?_ | refine ro_app ?_ | exact ro_refl | exact ro_pre)) ?_
                      first | exact ⟨rfl, rfl⟩ | (refine ⟨?_, rfl⟩; clear hL hlz hok hok2 hR hR2 hm hm2 hA hA2 hp hpl hkd hp2 hpl2 hkd2 hn hn2 hc hc2 hk0 hkl hlzl hl1 hLl hc7 hcz hcx c2; clear hk; grind)
                    | true =>
                      refine TL.valYes rfl rfl (Nat.le_of_ble_eq_true rfl) rfl (Nat.le_of_ble_eq_true rfl) rfl (Val.move rfl) ?_
                      refine TL.valYes rfl rfl (Nat.le_of_ble_eq_true rfl) rfl (Nat.le_of_ble_eq_true rfl) rfl (Val.not rfl) ?_
                      refine TL.valYes rfl rfl (Nat.le_of_ble_eq_true rfl) rfl (Nat.le_of_ble_eq_true rfl) rfl (Val.move rfl) ?_
                      refine TL.gen (fun g28 hg28 => ?_)
                      cases g28 with
                      | false =>
                        refine TL.valYes rfl rfl (Nat.le_of_ble_eq_true rfl) rfl (Nat.le_of_ble_eq_true rfl) rfl (Val.move rfl) ?_
                        refine TL.valYes rfl rfl (Nat.le_of_ble_eq_true rfl) rfl (Nat.le_of_ble_eq_true rfl) rfl (Val.not rfl) ?_
                        first
                          | refine TL.valYes rfl rfl (Nat.le_of_ble_eq_true rfl) rfl (Nat.le_of_ble_eq_true rfl) rfl (Val.pickAnd rfl rfl rfl) ?_
                          | refine TL.valYes rfl rfl (Nat.le_of_ble_eq_true rfl) rfl (Nat.le_of_ble_eq_true rfl) rfl (Val.pickOr rfl rfl rfl) ?_
                          | refine TL.valYes rfl rfl (Nat.le_of_ble_eq_true rfl) rfl (Nat.le_of_ble_eq_true rfl) rfl (Val.pick rfl rfl rfl) ?_
                        first
                          | refine TL.val rfl rfl (Nat.le_of_ble_eq_true rfl) (Val.pickAnd rfl rfl rfl) ?_
                          | refine TL.val rfl rfl (Nat.le_of_ble_eq_true rfl) (Val.pickOr rfl rfl rfl) ?_
                          | refine TL.val rfl rfl (Nat.le_of_ble_eq_true rfl) (Val.pick rfl rfl rfl) ?_
                        refine TL.val rfl rfl (Nat.le_of_ble_eq_true rfl) (Val.assign rfl) ?_
                        refine TL.nil ?_
                        refine AtX.then ?_
                        refine TC.env (E' := [(8, _)]) (Sub.cons rfl (Sub.nil _)) ?_
                        refine TC.ret1 (fn := Try.f5) (fun _ _ h => h) rfl (RV.tmp rfl) (M' := M) (by repeat (first | refine ro_tail ?_ | refine ro_app ?_ | exact ro_refl | exact ro_pre)) ?_
                        first | exact ⟨rfl, rfl⟩ | (refine ⟨?_, rfl⟩; clear hL hlz hok hok2 hR hR2 hm hm2 hA hA2 hp hpl hkd hp2 hpl2 hkd2 hn hn2 hc hc2 hk0 hkl hlzl hl1 hLl hc7 hcz hcx c2; clear hk; grind)
                      | true =>
                        refine TL.pass rfl rfl (Nat.le_of_ble_eq_true rfl) rfl (Nat.le_of_ble_eq_true rfl) rfl rfl ?_
                        refine TL.pass rfl rfl (Nat.le_of_ble_eq_true rfl) rfl (Nat.le_of_ble_eq_true rfl) rfl rfl ?_
                        first
                          | refine TL.valYes rfl rfl (Nat.le_of_ble_eq_true rfl) rfl (Nat.le_of_ble_eq_true rfl) rfl (Val.pickAnd rfl rfl rfl) ?_
                          | refine TL.valYes rfl rfl (Nat.le_of_ble_eq_true rfl) rfl (Nat.le_of_ble_eq_true rfl) rfl (Val.pickOr rfl rfl rfl) ?_
                          | refine TL.valYes rfl rfl (Nat.le_of_ble_eq_true rfl) rfl (Nat.le_of_ble_eq_true rfl) rfl (Val.pick rfl rfl rfl) ?_
                        first
                          | refine TL.val rfl rfl (Nat.le_of_ble_eq_true rfl) (Val.pickAnd rfl rfl rfl) ?_
                          | refine TL.val rfl rfl (Nat.le_of_ble_eq_true rfl) (Val.pickOr rfl rfl rfl) ?_
                          | refine TL.val rfl rfl (Nat.le_of_ble_eq_true rfl) (Val.pick rfl rfl rfl) ?_
                        refine TL.val rfl rfl (Nat.le_of_ble_eq_true rfl) (Val.assign rfl) ?_
                        refine TL.nil ?_
                        refine AtX.then ?_
                        refine TC.env (E' := [(8, _)]) (Sub.cons rfl (Sub.nil _)) ?_
                        refine TC.ret1 (fn := Try.f5) (fun _ _ h => h) rfl (RV.tmp rfl) (M' := M) (by repeat (first | refine ro_tail ?_ | refine ro_app ?_ | exact ro_refl | exact ro_pre)) ?_
                        first | exact ⟨rfl, rfl⟩ | (refine ⟨?_, rfl⟩; clear hL hlz hok hok2 hR hR2 hm hm2 hA hA2 hp hpl hkd hp2 hpl2 hkd2 hn hn2 hc hc2 hk0 hkl hlzl hl1 hLl hc7 hcz hcx c2; clear hk; grind)
              | true =>
                refine TL.valYes rfl rfl (Nat.le_of_ble_eq_true rfl) rfl (Nat.le_of_ble_eq_true rfl) rfl (Val.move rfl) ?_
                refine TL.valYes rfl rfl (Nat.le_of_ble_eq_true rfl) rfl (Nat.le_of_ble_eq_true rfl) rfl (Val.b2s (l := L) rfl us23 ui5 un9 (by omega) (rd_all (i := 1) rfl)) ?_
                refine TL.valYes rfl rfl (Nat.le_of_ble_eq_true rfl) rfl (Nat.le_of_ble_eq_true rfl) rfl (Val.move rfl) ?_
                refine TL.valYes rfl rfl (Nat.le_of_ble_eq_true rfl) rfl (Nat.le_of_ble_eq_true rfl) rfl (Val.b2s (l := lz) rfl us23 ui5 un9 (by omega) (rd_all (i := 2) rfl)) ?_
                refine TL.valYes rfl rfl (Nat.le_of_ble_eq_true rfl) rfl (Nat.le_of_ble_eq_true rfl) rfl (Val.neqS rfl rfl) ?_
                first
                  | refine TL.valYes rfl rfl (Nat.le_of_ble_eq_true rfl) rfl (Nat.le_of_ble_eq_true rfl) rfl (Val.pickAnd rfl rfl rfl) ?_
                  | refine TL.valYes rfl rfl (Nat.le_of_ble_eq_true rfl) rfl (Nat.le_of_ble_eq_true rfl) rfl (Val.pickOr rfl rfl rfl) ?_
                  | refine TL.valYes rfl rfl (Nat.le_of_ble_eq_true rfl) rfl (Nat.le_of_ble_eq_true rfl) rfl (Val.pick rfl rfl rfl) ?_
                first
                  | refine TL.valYes rfl rfl (Nat.le_of_ble_eq_true rfl) rfl (Nat.le_of_ble_eq_true rfl) rfl (Val.pickAnd rfl rfl rfl) ?_
                  | refine TL.valYes rfl rfl (Nat.le_of_ble_eq_true rfl) rfl (Nat.le_of_ble_eq_true rfl) rfl (Val.pickOr rfl rfl rfl) ?_
                  | refine TL.valYes rfl rfl (Nat.le_of_ble_eq_true rfl) rfl (Nat.le_of_ble_eq_true rfl) rfl (Val.pick rfl rfl rfl) ?_
                first
                  | refine TL.val rfl rfl (Nat.le_of_ble_eq_true rfl) (Val.pickAnd rfl rfl rfl) ?_
                  | refine TL.val rfl rfl (Nat.le_of_ble_eq_true rfl) (Val.pickOr rfl rfl rfl) ?_
                  | refine TL.val rfl rfl (Nat.le_of_ble_eq_true rfl) (Val.pick rfl rfl rfl) ?_
                refine TL.nil ?_
                refine AtX.then ?_
                refine TC.env (E' := [(3, _), (18, _), (19, _), (94, _)]) (Sub.cons rfl (Sub.cons rfl (Sub.cons rfl (Sub.cons rfl (Sub.nil _))))) ?_
                first | refine TC.condP rfl (fun c6 => ?_) (fun c6 => ?_) | refine TC.condN rfl (fun c6 => ?_) (fun c6 => ?_) | refine TC.condB rfl (fun c6 => ?_) (fun c6 => ?_) | refine TC.cond rfl (fun c6 => ?_) (fun c6 => ?_)
                · skip
                  (exfalso; clear hL hlz hok hok2 hR hR2 hm hm2 hA hA2 hp hpl hkd hp2 hpl2 hkd2 hn hn2 hc hc2 hk0 hkl hlzl hl1 hLl hc7 hcz hcx c2; clear hk; grind)
                · skip
                  refine TC.env (E' := [(3, _), (18, _), (19, _)]) (Sub.cons rfl (Sub.cons rfl (Sub.cons rfl (Sub.nil _)))) ?_
                  refine TC.skip ?_
                  refine AtX.then ?_
                  refine TC.env (E' := [(3, _), (18, _), (19, _)]) (Sub.cons rfl (Sub.cons rfl (Sub.cons rfl (Sub.nil _)))) ?_
                  refine TC.seq ?_
                  refine TC.region ?_
                  refine TL.does (some 95) rfl rfl rfl (Does.callF go9 rfl (told_fn _)) ?_
                  rintro _ _ ⟨rfl, rfl⟩
                  refine TL.val rfl rfl (Nat.le_of_ble_eq_true rfl) (Val.move rfl) ?_
                  refine TL.valYes rfl rfl (Nat.le_of_ble_eq_true rfl) rfl (Nat.le_of_ble_eq_true rfl) rfl (Val.move rfl) ?_
                  refine TL.valYes rfl rfl (Nat.le_of_ble_eq_true rfl) rfl (Nat.le_of_ble_eq_true rfl) rfl (Val.eqlI rfl rfl) ?_
                  refine TL.valYes rfl rfl (Nat.le_of_ble_eq_true rfl) rfl (Nat.le_of_ble_eq_true rfl) rfl (Val.move rfl) ?_
                  refine TL.gen (fun g30 hg30 => ?_)
                  cases g30 with
                  | false =>
                    refine TL.valYes rfl rfl (Nat.le_of_ble_eq_true rfl) rfl (Nat.le_of_ble_eq_true rfl) rfl (Val.move rfl) ?_
                    refine TL.valYes rfl rfl (Nat.le_of_ble_eq_true rfl) rfl (Nat.le_of_ble_eq_true rfl) rfl (Val.move rfl) ?_
                    refine TL.gen (fun g31 hg31 => ?_)
                    cases g31 with
                    | false =>
                      refine TL.pass rfl rfl (Nat.le_of_ble_eq_true rfl) rfl (Nat.le_of_ble_eq_true rfl) rfl rfl ?_
                      refine TL.pass rfl rfl (Nat.le_of_ble_eq_true rfl) rfl (Nat.le_of_ble_eq_true rfl) rfl rfl ?_
                      first
                        | refine TL.valYes rfl rfl (Nat.le_of_ble_eq_true rfl) rfl (Nat.le_of_ble_eq_true rfl) rfl (Val.pickAnd rfl rfl rfl) ?_
                        | refine TL.valYes rfl rfl (Nat.le_of_ble_eq_true rfl) rfl (Nat.le_of_ble_eq_true rfl) rfl (Val.pickOr rfl rfl rfl) ?_
                        | refine TL.valYes rfl rfl (Nat.le_of_ble_eq_true rfl) rfl (Nat.le_of_ble_eq_true rfl) rfl (Val.pick rfl rfl rfl) ?_
                      first
                        | refine TL.valYes rfl rfl (Nat.le_of_ble_eq_true rfl) rfl (Nat.le_of_ble_eq_true rfl) rfl (Val.pickAnd rfl rfl rfl) ?_
                        | refine TL.valYes rfl rfl (Nat.le_of_ble_eq_true rfl) rfl (Nat.le_of_ble_eq_true rfl) rfl (Val.pickOr rfl rfl rfl) ?_
                        | refine TL.valYes rfl rfl (Nat.le_of_ble_eq_true rfl) rfl (Nat.le_of_ble_eq_true rfl) rfl (Val.pick rfl rfl rfl) ?_
                      first
                        | refine TL.val rfl rfl (Nat.le_of_ble_eq_true rfl) (Val.pickAnd rfl rfl rfl) ?_
                        | refine TL.val rfl rfl (Nat.le_of_ble_eq_true rfl) (Val.pickOr rfl rfl rfl) ?_
                        | refine TL.val rfl rfl (Nat.le_of_ble_eq_true rfl) (Val.pick rfl rfl rfl) ?_
                      refine TL.val rfl rfl (Nat.le_of_ble_eq_true rfl) (Val.move rfl) ?_
                      refine TL.gen (fun g32 hg32 => ?_)
                      cases g32 with
                      | false =>
                        refine TL.pass rfl rfl (Nat.le_of_ble_eq_true rfl) rfl (Nat.le_of_ble_eq_true rfl) rfl rfl ?_
                        refine TL.pass rfl rfl (Nat.le_of_ble_eq_true rfl) rfl (Nat.le_of_ble_eq_true rfl) rfl rfl ?_
                        refine TL.pass rfl rfl (Nat.le_of_ble_eq_true rfl) rfl (Nat.le_of_ble_eq_true rfl) rfl rfl ?_
                        refine TL.passU rfl rfl (Nat.le_of_ble_eq_true rfl) rfl (Nat.le_of_ble_eq_true rfl) rfl ?_
                        refine TL.passU rfl rfl (Nat.le_of_ble_eq_true rfl) rfl (Nat.le_of_ble_eq_true rfl) rfl ?_
                        refine TL.pass rfl rfl (Nat.le_of_ble_eq_true rfl) rfl (Nat.le_of_ble_eq_true rfl) rfl rfl ?_
                        first
                          | refine TL.val rfl rfl (Nat.le_of_ble_eq_true rfl) (Val.pickAnd rfl rfl rfl) ?_
                          | refine TL.val rfl rfl (Nat.le_of_ble_eq_true rfl) (Val.pickOr rfl rfl rfl) ?_
                          | refine TL.val rfl rfl (Nat.le_of_ble_eq_true rfl) (Val.pick rfl rfl rfl) ?_
                        refine TL.val rfl rfl (Nat.le_of_ble_eq_true rfl) (Val.assign rfl) ?_
                        refine TL.nil ?_
                        refine AtX.then ?_
                        refine TC.env (E' := [(8, _)]) (Sub.cons rfl (Sub.nil _)) ?_
                        refine TC.ret1 (fn := Try.f5) (fun _ _ h => h) rfl (RV.tmp rfl) (M' := M) (by repeat (first | refine ro_tail ?_ | refine ro_app ?_ | exact ro_refl | exact ro_pre)) ?_
                        first | exact ⟨rfl, rfl⟩ | (refine ⟨?_, rfl⟩; clear hL hlz hok hok2 hR hR2 hm hm2 hA hA2 hp hpl hkd hp2 hpl2 hkd2 hn hn2 hc hc2 hk0 hkl hlzl hl1 hLl hc7 hcz hcx c2; clear hk; grind)
                      | true =>
                        refine TL.valYes rfl rfl (Nat.le_of_ble_eq_true rfl) rfl (Nat.le_of_ble_eq_true rfl) rfl (Val.move rfl) ?_
                        refine TL.valYes rfl rfl (Nat.le_of_ble_eq_true rfl) rfl (Nat.le_of_ble_eq_true rfl) rfl (Val.not rfl) ?_
                        refine TL.valYes rfl rfl (Nat.le_of_ble_eq_true rfl) rfl (Nat.le_of_ble_eq_true rfl) rfl (Val.move rfl) ?_
                        refine TL.gen (fun g33 hg33 => ?_)
                        cases g33 with
                        | false =>
                          refine TL.valYes rfl rfl (Nat.le_of_ble_eq_true rfl) rfl (Nat.le_of_ble_eq_true rfl) rfl (Val.move rfl) ?_
                          refine TL.valYes rfl rfl (Nat.le_of_ble_eq_true rfl) rfl (Nat.le_of_ble_eq_true rfl) rfl (Val.not rfl) ?_
                          first
                            | refine TL.valYes rfl rfl (Nat.le_of_ble_eq_true rfl) rfl (Nat.le_of_ble_eq_true rfl) rfl (Val.pickAnd rfl rfl rfl) ?_
                            | refine TL.valYes rfl rfl (Nat.le_of_ble_eq_true rfl) rfl (Nat.le_of_ble_eq_true rfl) rfl (Val.pickOr rfl rfl rfl) ?_
                            | refine TL.valYes rfl rfl (Nat.le_of_ble_eq_true rfl) rfl (Nat.le_of_ble_eq_true rfl) rfl (Val.pick rfl rfl rfl) ?_
                          first
                            | refine TL.val rfl rfl (Nat.le_of_ble_eq_true rfl) (Val.pickAnd rfl rfl rfl) ?_
                            | refine TL.val rfl rfl (Nat.le_of_ble_eq_true rfl) (Val.pickOr rfl rfl rfl) ?_
                            | refine TL.val rfl rfl (Nat.le_of_ble_eq_true rfl) (Val.pick rfl rfl rfl) ?_
                          refine TL.val rfl rfl (Nat.le_of_ble_eq_true rfl) (Val.assign rfl) ?_
                          refine TL.nil ?_
                          refine AtX.then ?_
                          refine TC.env (E' := [(8, _)]) (Sub.cons rfl (Sub.nil _)) ?_
                          refine TC.ret1 (fn := Try.f5) (fun _ _ h => h) rfl (RV.tmp rfl) (M' := M) (by repeat (first | refine ro_tail ?_ | refine ro_app ?_ | exact ro_refl | exact ro_pre)) ?_
                          first | exact ⟨rfl, rfl⟩ | (refine ⟨?_, rfl⟩; clear hL hlz hok hok2 hR hR2 hm hm2 hA hA2 hp hpl hkd hp2 hpl2 hkd2 hn hn2 hc hc2 hk0 hkl hlzl hl1 hLl hc7 hcz hcx c2; clear hk; grind)
                        | true =>
                          refine TL.pass rfl rfl (Nat.le_of_ble_eq_true rfl) rfl (Nat.le_of_ble_eq_true rfl) rfl rfl ?_
                          refine TL.pass rfl rfl (Nat.le_of_ble_eq_true rfl) rfl (Nat.le_of_ble_eq_true rfl) rfl rfl ?_
                          first
                            | refine TL.valYes rfl rfl (Nat.le_of_ble_eq_true rfl) rfl (Nat.le_of_ble_eq_true rfl) rfl (Val.pickAnd rfl rfl rfl) ?_
                            | refine TL.valYes rfl rfl (Nat.le_of_ble_eq_true rfl) rfl (Nat.le_of_ble_eq_true rfl) rfl (Val.pickOr rfl rfl rfl) ?_
                            | refine TL.valYes rfl rfl (Nat.le_of_ble_eq_true rfl) rfl (Nat.le_of_ble_eq_true rfl) rfl (Val.pick rfl rfl rfl) ?_
                          first
                            | refine TL.val rfl rfl (Nat.le_of_ble_eq_true rfl) (Val.pickAnd rfl rfl rfl) ?_
                            | refine TL.val rfl rfl (Nat.le_of_ble_eq_true rfl) (Val.pickOr rfl rfl rfl) ?_
                            | refine TL.val rfl rfl (Nat.le_of_ble_eq_true rfl) (Val.pick rfl rfl rfl) ?_
                          refine TL.val rfl rfl (Nat.le_of_ble_eq_true rfl) (Val.assign rfl) ?_
                          refine TL.nil ?_
                          refine AtX.then ?_
                          refine TC.env (E' := [(8, _)]) (Sub.cons rfl (Sub.nil _)) ?_
                          refine TC.ret1 (fn := Try.f5) (fun _ _ h => h) rfl (RV.tmp rfl) (M' := M) (by repeat (first | refine ro_tail ?_ | refine ro_app ?_ | exact ro_refl | exact ro_pre)) ?_
                          first | exact ⟨rfl, rfl⟩ | (refine ⟨?_, rfl⟩; clear hL hlz hok hok2 hR hR2 hm hm2 hA hA2 hp hpl hkd hp2 hpl2 hkd2 hn hn2 hc hc2 hk0 hkl hlzl hl1 hLl hc7 hcz hcx c2; clear hk; grind)
                    | true =>
                      refine TL.valYes rfl rfl (Nat.le_of_ble_eq_true rfl) rfl (Nat.le_of_ble_eq_true rfl) rfl (Val.move rfl) ?_
                      refine TL.valYes rfl rfl (Nat.le_of_ble_eq_true rfl) rfl (Nat.le_of_ble_eq_true rfl) rfl (Val.eqlI rfl rfl) ?_
                      first
                        | refine TL.valYes rfl rfl (Nat.le_of_ble_eq_true rfl) rfl (Nat.le_of_ble_eq_true rfl) rfl (Val.pickAnd rfl rfl rfl) ?_
                        | refine TL.valYes rfl rfl (Nat.le_of_ble_eq_true rfl) rfl (Nat.le_of_ble_eq_true rfl) rfl (Val.pickOr rfl rfl rfl) ?_
                        | refine TL.valYes rfl rfl (Nat.le_of_ble_eq_true rfl) rfl (Nat.le_of_ble_eq_true rfl) rfl (Val.pick rfl rfl rfl) ?_
                      first
                        | refine TL.valYes rfl rfl (Nat.le_of_ble_eq_true rfl) rfl (Nat.le_of_ble_eq_true rfl) rfl (Val.pickAnd rfl rfl rfl) ?_
                        | refine TL.valYes rfl rfl (Nat.le_of_ble_eq_true rfl) rfl (Nat.le_of_ble_eq_true rfl) rfl (Val.pickOr rfl rfl rfl) ?_
                        | refine TL.valYes rfl rfl (Nat.le_of_ble_eq_true rfl) rfl (Nat.le_of_ble_eq_true rfl) rfl (Val.pick rfl rfl rfl) ?_
                      first
                        | refine TL.val rfl rfl (Nat.le_of_ble_eq_true rfl) (Val.pickAnd rfl rfl rfl) ?_
                        | refine TL.val rfl rfl (Nat.le_of_ble_eq_true rfl) (Val.pickOr rfl rfl rfl) ?_
                        | refine TL.val rfl rfl (Nat.le_of_ble_eq_true rfl) (Val.pick rfl rfl rfl) ?_
                      refine TL.val rfl rfl (Nat.le_of_ble_eq_true rfl) (Val.move rfl) ?_
                      refine TL.gen (fun g34 hg34 => ?_)
                      cases g34 with
                      | false =>
                        refine TL.pass rfl rfl (Nat.le_of_ble_eq_true rfl) rfl (Nat.le_of_ble_eq_true rfl) rfl rfl ?_
                        refine TL.pass rfl rfl (Nat.le_of_ble_eq_true rfl) rfl (Nat.le_of_ble_eq_true rfl) rfl rfl ?_
                        refine TL.pass rfl rfl (Nat.le_of_ble_eq_true rfl) rfl (Nat.le_of_ble_eq_true rfl) rfl rfl ?_
                        refine TL.passU rfl rfl (Nat.le_of_ble_eq_true rfl) rfl (Nat.le_of_ble_eq_true rfl) rfl ?_
                        refine TL.passU rfl rfl (Nat.le_of_ble_eq_true rfl) rfl (Nat.le_of_ble_eq_true rfl) rfl ?_
                        refine TL.pass rfl rfl (Nat.le_of_ble_eq_true rfl) rfl (Nat.le_of_ble_eq_true rfl) rfl rfl ?_
                        first
                          | refine TL.val rfl rfl (Nat.le_of_ble_eq_true rfl) (Val.pickAnd rfl rfl rfl) ?_
                          | refine TL.val rfl rfl (Nat.le_of_ble_eq_true rfl) (Val.pickOr rfl rfl rfl) ?_
                          | refine TL.val rfl rfl (Nat.le_of_ble_eq_true rfl) (Val.pick rfl rfl rfl) ?_
                        refine TL.val rfl rfl (Nat.le_of_ble_eq_true rfl) (Val.assign rfl) ?_
                        refine TL.nil ?_
                        refine AtX.then ?_
                        refine TC.env (E' := [(8, _)]) (Sub.cons rfl (Sub.nil _)) ?_
                        refine TC.ret1 (fn := Try.f5) (fun _ _ h => h) rfl (RV.tmp rfl) (M' := M) (by repeat (first | refine ro_tail ?_ | refine ro_app ?_ | exact ro_refl | exact ro_pre)) ?_
                        first | exact ⟨rfl, rfl⟩ | (refine ⟨?_, rfl⟩; clear hL hlz hok hok2 hR hR2 hm hm2 hA hA2 hp hpl hkd hp2 hpl2 hkd2 hn hn2 hc hc2 hk0 hkl hlzl hl1 hLl hc7 hcz hcx c2; clear hk; grind)
                      | true =>
                        refine TL.valYes rfl rfl (Nat.le_of_ble_eq_true rfl) rfl (Nat.le_of_ble_eq_true rfl) rfl (Val.move rfl) ?_
                        refine TL.valYes rfl rfl (Nat.le_of_ble_eq_true rfl) rfl (Nat.le_of_ble_eq_true rfl) rfl (Val.not rfl) ?_
                        refine TL.valYes rfl rfl (Nat.le_of_ble_eq_true rfl) rfl (Nat.le_of_ble_eq_true rfl) rfl (Val.move rfl) ?_
                        refine TL.gen (fun g35 hg35 => ?_)
                        cases g35 with
                        | false =>
                          refine TL.valYes rfl rfl (Nat.le_of_ble_eq_true rfl) rfl (Nat.le_of_ble_eq_true rfl) rfl (Val.move rfl) ?_
                          refine TL.valYes rfl rfl (Nat.le_of_ble_eq_true rfl) rfl (Nat.le_of_ble_eq_true rfl) rfl (Val.not rfl) ?_
                          first
                            | refine TL.valYes rfl rfl (Nat.le_of_ble_eq_true rfl) rfl (Nat.le_of_ble_eq_true rfl) rfl (Val.pickAnd rfl rfl rfl) ?_
                            | refine TL.valYes rfl rfl (Nat.le_of_ble_eq_true rfl) rfl (Nat.le_of_ble_eq_true rfl) rfl (Val.pickOr rfl rfl rfl) ?_
                            | refine TL.valYes rfl rfl (Nat.le_of_ble_eq_true rfl) rfl (Nat.le_of_ble_eq_true rfl) rfl (Val.pick rfl rfl rfl) ?_
                          first
                            | refine TL.val rfl rfl (Nat.le_of_ble_eq_true rfl) (Val.pickAnd rfl rfl rfl) ?_
                            | refine TL.val rfl rfl (Nat.le_of_ble_eq_true rfl) (Val.pickOr rfl rfl rfl) ?_
                            | refine TL.val rfl rfl (Nat.le_of_ble_eq_true rfl) (Val.pick rfl rfl rfl) ?_
                          refine TL.val rfl rfl (Nat.le_of_ble_eq_true rfl) (Val.assign rfl) ?_
                          refine TL.nil ?_
                          refine AtX.then ?_
                          refine TC.env (E' := [(8, _)]) (Sub.cons rfl (Sub.nil _)) ?_
                          refine TC.ret1 (fn := Try.f5) (fun _ _ h => h) rfl (RV.tmp rfl) (M' := M) (by repeat (first | refine ro_tail ?_ | refine ro_app ?_ | exact ro_refl | exact ro_pre)) ?_
                          first | exact ⟨rfl, rfl⟩ | (refine ⟨?_, rfl⟩; clear hL hlz hok hok2 hR hR2 hm hm2 hA hA2 hp hpl hkd hp2 hpl2 hkd2 hn hn2 hc hc2 hk0 hkl hlzl hl1 hLl hc7 hcz hcx c2; clear hk; grind)
                        | true =>
                          refine TL.pass rfl rfl (Nat.le_of_ble_eq_true rfl) rfl (Nat.le_of_ble_eq_true rfl) rfl rfl ?_
                          refine TL.pass rfl rfl (Nat.le_of_ble_eq_true rfl) rfl (Nat.le_of_ble_eq_true rfl) rfl rfl ?_
                          first
                            | refine TL.valYes rfl rfl (Nat.le_of_ble_eq_true rfl) rfl (Nat.le_of_ble_eq_true rfl) rfl (Val.pickAnd rfl rfl rfl) ?_
                            | refine TL.valYes rfl rfl (Nat.le_of_ble_eq_true rfl) rfl (Nat.le_of_ble_eq_true rfl) rfl (Val.pickOr rfl rfl rfl) ?_
                            | refine TL.valYes rfl rfl (Nat.le_of_ble_eq_true rfl) rfl (Nat.le_of_ble_eq_true rfl) rfl (Val.pick rfl rfl rfl) ?_
                          first
                            | refine TL.val rfl rfl (Nat.le_of_ble_eq_true rfl) (Val.pickAnd rfl rfl rfl) ?_
                            | refine TL.val rfl rfl (Nat.le_of_ble_eq_true rfl) (Val.pickOr rfl rfl rfl) ?_
                            | refine TL.val rfl rfl (Nat.le_of_ble_eq_true rfl) (Val.pick rfl rfl rfl) ?_
                          refine TL.val rfl rfl (Nat.le_of_ble_eq_true rfl) (Val.assign rfl) ?_
                          refine TL.nil ?_
                          refine AtX.then ?_
                          refine TC.env (E' := [(8, _)]) (Sub.cons rfl (Sub.nil _)) ?_
                          refine TC.ret1 (fn := Try.f5) (fun _ _ h => h) rfl (RV.tmp rfl) (M' := M) (by repeat (first | refine ro_tail ?_ | refine ro_app ?_ | exact ro_refl | exact ro_pre)) ?_
                          first | exact ⟨rfl, rfl⟩ | (refine ⟨?_, rfl⟩; clear hL hlz hok hok2 hR hR2 hm hm2 hA hA2 hp hpl hkd hp2 hpl2 hkd2 hn hn2 hc hc2 hk0 hkl hlzl hl1 hLl hc7 hcz hcx c2; clear hk; grind)
                  | true =>
                    refine TL.pass rfl rfl (Nat.le_of_ble_eq_true rfl) rfl (Nat.le_of_ble_eq_true rfl) rfl rfl ?_
                    refine TL.pass rfl rfl (Nat.le_of_ble_eq_true rfl) rfl (Nat.le_of_ble_eq_true rfl) rfl rfl ?_
                    refine TL.passU rfl rfl (Nat.le_of_ble_eq_true rfl) rfl (Nat.le_of_ble_eq_true rfl) rfl ?_
                    refine TL.passU rfl rfl (Nat.le_of_ble_eq_true rfl) rfl (Nat.le_of_ble_eq_true rfl) rfl ?_
                    refine TL.pass rfl rfl (Nat.le_of_ble_eq_true rfl) rfl (Nat.le_of_ble_eq_true rfl) rfl rfl ?_
                    first
                      | refine TL.valYes rfl rfl (Nat.le_of_ble_eq_true rfl) rfl (Nat.le_of_ble_eq_true rfl) rfl (Val.pickAnd rfl rfl rfl) ?_
                      | refine TL.valYes rfl rfl (Nat.le_of_ble_eq_true rfl) rfl (Nat.le_of_ble_eq_true rfl) rfl (Val.pickOr rfl rfl rfl) ?_
                      | refine TL.valYes rfl rfl (Nat.le_of_ble_eq_true rfl) rfl (Nat.le_of_ble_eq_true rfl) rfl (Val.pick rfl rfl rfl) ?_
                    first
                      | refine TL.val rfl rfl (Nat.le_of_ble_eq_true rfl) (Val.pickAnd rfl rfl rfl) ?_
                      | refine TL.val rfl rfl (Nat.le_of_ble_eq_true rfl) (Val.pickOr rfl rfl rfl) ?_
                      | refine TL.val rfl rfl (Nat.le_of_ble_eq_true rfl) (Val.pick rfl rfl rfl) ?_
                    refine TL.val rfl rfl (Nat.le_of_ble_eq_true rfl) (Val.move rfl) ?_
                    refine TL.gen (fun g36 hg36 => ?_)
                    cases g36 with
                    | false =>
                      refine TL.pass rfl rfl (Nat.le_of_ble_eq_true rfl) rfl (Nat.le_of_ble_eq_true rfl) rfl rfl ?_
                      refine TL.pass rfl rfl (Nat.le_of_ble_eq_true rfl) rfl (Nat.le_of_ble_eq_true rfl) rfl rfl ?_
                      refine TL.pass rfl rfl (Nat.le_of_ble_eq_true rfl) rfl (Nat.le_of_ble_eq_true rfl) rfl rfl ?_
                      refine TL.passU rfl rfl (Nat.le_of_ble_eq_true rfl) rfl (Nat.le_of_ble_eq_true rfl) rfl ?_
                      refine TL.passU rfl rfl (Nat.le_of_ble_eq_true rfl) rfl (Nat.le_of_ble_eq_true rfl) rfl ?_
                      refine TL.pass rfl rfl (Nat.le_of_ble_eq_true rfl) rfl (Nat.le_of_ble_eq_true rfl) rfl rfl ?_
                      first
                        | refine TL.val rfl rfl (Nat.le_of_ble_eq_true rfl) (Val.pickAnd rfl rfl rfl) ?_
                        | refine TL.val rfl rfl (Nat.le_of_ble_eq_true rfl) (Val.pickOr rfl rfl rfl) ?_
                        | refine TL.val rfl rfl (Nat.le_of_ble_eq_true rfl) (Val.pick rfl rfl rfl) ?_
                      refine TL.val rfl rfl (Nat.le_of_ble_eq_true rfl) (Val.assign rfl) ?_
                      refine TL.nil ?_
                      refine AtX.then ?_
                      refine TC.env (E' := [(8, _)]) (Sub.cons rfl (Sub.nil _)) ?_
                      refine TC.ret1 (fn := Try.f5) (fun _ _ h => h) rfl (RV.tmp rfl) (M' := M) (by repeat (first | refine ro_tail ?_ | refine ro_app ?_ | exact ro_refl | exact ro_pre)) ?_
                      first | exact ⟨rfl, rfl⟩ | (refine ⟨?_, rfl⟩; clear hL hlz hok hok2 hR hR2 hm hm2 hA hA2 hp hpl hkd hp2 hpl2 hkd2 hn hn2 hc hc2 hk0 hkl hlzl hl1 hLl hc7 hcz hcx c2; clear hk; grind)
                    | true =>
                      refine TL.valYes rfl rfl (Nat.le_of_ble_eq_true rfl) rfl (Nat.le_of_ble_eq_true rfl) rfl (Val.move rfl) ?_
                      refine TL.valYes rfl rfl (Nat.le_of_ble_eq_true rfl) rfl (Nat.le_of_ble_eq_true rfl) rfl (Val.not rfl) ?_
                      refine TL.valYes rfl rfl (Nat.le_of_ble_eq_true rfl) rfl (Nat.le_of_ble_eq_true rfl) rfl (Val.move rfl) ?_
                      refine TL.gen (fun g37 hg37 => ?_)
                      cases g37 with
                      | false =>
                        refine TL.valYes rfl rfl (Nat.le_of_ble_eq_true rfl) rfl (Nat.le_of_ble_eq_true rfl) rfl (Val.move rfl) ?_
                        refine TL.valYes rfl rfl (Nat.le_of_ble_eq_true rfl) rfl (Nat.le_of_ble_eq_true rfl) rfl (Val.not rfl) ?_
                        first
                          | refine TL.valYes rfl rfl (Nat.le_of_ble_eq_true rfl) rfl (Nat.le_of_ble_eq_true rfl) rfl (Val.pickAnd rfl rfl rfl) ?_
                          | refine TL.valYes rfl rfl (Nat.le_of_ble_eq_true rfl) rfl (Nat.le_of_ble_eq_true rfl) rfl (Val.pickOr rfl rfl rfl) ?_
                          | refine TL.valYes rfl rfl (Nat.le_of_ble_eq_true rfl) rfl (Nat.le_of_ble_eq_true rfl) rfl (Val.pick rfl rfl rfl) ?_
                        first
                          | refine TL.val rfl rfl (Nat.le_of_ble_eq_true rfl) (Val.pickAnd rfl rfl rfl) ?_
                          | refine TL.val rfl rfl (Nat.le_of_ble_eq_true rfl) (Val.pickOr rfl rfl rfl) ?_
                          | refine TL.val rfl rfl (Nat.le_of_ble_eq_true rfl) (Val.pick rfl rfl rfl) ?_
                        refine TL.val rfl rfl (Nat.le_of_ble_eq_true rfl) (Val.assign rfl) ?_
                        refine TL.nil ?_
                        refine AtX.then ?_
                        refine TC.env (E' := [(8, _)]) (Sub.cons rfl (Sub.nil _)) ?_
                        refine TC.ret1 (fn := Try.f5) (fun _ _ h => h) rfl (RV.tmp rfl) (M' := M) (by repeat (first | refine ro_tail ?_ | refine ro_app ?_ | exact ro_refl | exact ro_pre)) ?_
                        first | exact ⟨rfl, rfl⟩ | (refine ⟨?_, rfl⟩; clear hL hlz hok hok2 hR hR2 hm hm2 hA hA2 hp hpl hkd hp2 hpl2 hkd2 hn hn2 hc hc2 hk0 hkl hlzl hl1 hLl hc7 hcz hcx c2; clear hk; grind)
                      | true =>
                        refine TL.pass rfl rfl (Nat.le_of_ble_eq_true rfl) rfl (Nat.le_of_ble_eq_true rfl) rfl rfl ?_
                        refine TL.pass rfl rfl (Nat.le_of_ble_eq_true rfl) rfl (Nat.le_of_ble_eq_true rfl) rfl rfl ?_
                        first
                          | refine TL.valYes rfl rfl (Nat.le_of_ble_eq_true rfl) rfl (Nat.le_of_ble_eq_true rfl) rfl (Val.pickAnd rfl rfl rfl) ?_
                          | refine TL.valYes rfl rfl (Nat.le_of_ble_eq_true rfl) rfl (Nat.le_of_ble_eq_true rfl) rfl (Val.pickOr rfl rfl rfl) ?_
                          | refine TL.valYes rfl rfl (Nat.le_of_ble_eq_true rfl) rfl (Nat.le_of_ble_eq_true rfl) rfl (Val.pick rfl rfl rfl) ?_
                        first
                          | refine TL.val rfl rfl (Nat.le_of_ble_eq_true rfl) (Val.pickAnd rfl rfl rfl) ?_
                          | refine TL.val rfl rfl (Nat.le_of_ble_eq_true rfl) (Val.pickOr rfl rfl rfl) ?_
                          | refine TL.val rfl rfl (Nat.le_of_ble_eq_true rfl) (Val.pick rfl rfl rfl) ?_
                        refine TL.val rfl rfl (Nat.le_of_ble_eq_true rfl) (Val.assign rfl) ?_
                        refine TL.nil ?_
                        refine AtX.then ?_
                        refine TC.env (E' := [(8, _)]) (Sub.cons rfl (Sub.nil _)) ?_
                        refine TC.ret1 (fn := Try.f5) (fun _ _ h => h) rfl (RV.tmp rfl) (M' := M) (by repeat (first | refine ro_tail ?_ | refine ro_app ?_ | exact ro_refl | exact ro_pre)) ?_
                        first | exact ⟨rfl, rfl⟩ | (refine ⟨?_, rfl⟩; clear hL hlz hok hok2 hR hR2 hm hm2 hA hA2 hp hpl hkd hp2 hpl2 hkd2 hn hn2 hc hc2 hk0 hkl hlzl hl1 hLl hc7 hcz hcx c2; clear hk; grind)
            | true =>
              refine TL.pass rfl rfl (Nat.le_of_ble_eq_true rfl) rfl (Nat.le_of_ble_eq_true rfl) rfl rfl ?_
              refine TL.pass rfl rfl (Nat.le_of_ble_eq_true rfl) rfl (Nat.le_of_ble_eq_true rfl) rfl rfl ?_
              refine TL.pass rfl rfl (Nat.le_of_ble_eq_true rfl) rfl (Nat.le_of_ble_eq_true rfl) rfl rfl ?_
              refine TL.pass rfl rfl (Nat.le_of_ble_eq_true rfl) rfl (Nat.le_of_ble_eq_true rfl) rfl rfl ?_
              refine TL.pass rfl rfl (Nat.le_of_ble_eq_true rfl) rfl (Nat.le_of_ble_eq_true rfl) rfl rfl ?_
              refine TL.pass rfl rfl (Nat.le_of_ble_eq_true rfl) rfl (Nat.le_of_ble_eq_true rfl) rfl rfl ?_
              refine TL.passU rfl rfl (Nat.le_of_ble_eq_true rfl) rfl (Nat.le_of_ble_eq_true rfl) rfl ?_
              refine TL.passU rfl rfl (Nat.le_of_ble_eq_true rfl) rfl (Nat.le_of_ble_eq_true rfl) rfl ?_
              refine TL.passU rfl rfl (Nat.le_of_ble_eq_true rfl) rfl (Nat.le_of_ble_eq_true rfl) rfl ?_
              refine TL.passU rfl rfl (Nat.le_of_ble_eq_true rfl) rfl (Nat.le_of_ble_eq_true rfl) rfl ?_
              refine TL.passU rfl rfl (Nat.le_of_ble_eq_true rfl) rfl (Nat.le_of_ble_eq_true rfl) rfl ?_
              refine TL.pass rfl rfl (Nat.le_of_ble_eq_true rfl) rfl (Nat.le_of_ble_eq_true rfl) rfl rfl ?_
              first
                | refine TL.valYes rfl rfl (Nat.le_of_ble_eq_true rfl) rfl (Nat.le_of_ble_eq_true rfl) rfl (Val.pickAnd rfl rfl rfl) ?_
                | refine TL.valYes rfl rfl (Nat.le_of_ble_eq_true rfl) rfl (Nat.le_of_ble_eq_true rfl) rfl (Val.pickOr rfl rfl rfl) ?_
                | refine TL.valYes rfl rfl (Nat.le_of_ble_eq_true rfl) rfl (Nat.le_of_ble_eq_true rfl) rfl (Val.pick rfl rfl rfl) ?_
              first
                | refine TL.val rfl rfl (Nat.le_of_ble_eq_true rfl) (Val.pickAnd rfl rfl rfl) ?_
                | refine TL.val rfl rfl (Nat.le_of_ble_eq_true rfl) (Val.pickOr rfl rfl rfl) ?_
                | refine TL.val rfl rfl (Nat.le_of_ble_eq_true rfl) (Val.pick rfl rfl rfl) ?_
              refine TL.nil ?_
              refine AtX.then ?_
              refine TC.env (E' := [(3, _), (18, _), (19, _), (94, _)]) (Sub.cons rfl (Sub.cons rfl (Sub.cons rfl (Sub.cons rfl (Sub.nil _))))) ?_
              first | refine TC.condP rfl (fun c7 => ?_) (fun c7 => ?_) | refine TC.condN rfl (fun c7 => ?_) (fun c7 => ?_) | refine TC.condB rfl (fun c7 => ?_) (fun c7 => ?_) | refine TC.cond rfl (fun c7 => ?_) (fun c7 => ?_)
              · skip
                (exfalso; clear hL hlz hok hok2 hR hR2 hm hm2 hA hA2 hp hpl hkd hp2 hpl2 hkd2 hn hn2 hc hc2 hk0 hkl hlzl hl1 hLl hc7 hcz hcx c2; clear hk; grind)
              · skip
                refine TC.env (E' := [(3, _), (18, _), (19, _)]) (Sub.cons rfl (Sub.cons rfl (Sub.cons rfl (Sub.nil _)))) ?_
                refine TC.skip ?_
                refine AtX.then ?_
                refine TC.env (E' := [(3, _), (18, _), (19, _)]) (Sub.cons rfl (Sub.cons rfl (Sub.cons rfl (Sub.nil _)))) ?_
                refine TC.seq ?_
                refine TC.region ?_
                refine TL.does (some 95) rfl rfl rfl (Does.callF go9 rfl (told_fn _)) ?_
                rintro _ _ ⟨rfl, rfl⟩
                refine TL.val rfl rfl (Nat.le_of_ble_eq_true rfl) (Val.move rfl) ?_
                refine TL.valYes rfl rfl (Nat.le_of_ble_eq_true rfl) rfl (Nat.le_of_ble_eq_true rfl) rfl (Val.move rfl) ?_
                refine TL.valYes rfl rfl (Nat.le_of_ble_eq_true rfl) rfl (Nat.le_of_ble_eq_true rfl) rfl (Val.eqlI rfl rfl) ?_
                refine TL.valYes rfl rfl (Nat.le_of_ble_eq_true rfl) rfl (Nat.le_of_ble_eq_true rfl) rfl (Val.move rfl) ?_
                refine TL.gen (fun g39 hg39 => ?_)
                cases g39 with
                | false =>
                  refine TL.valYes rfl rfl (Nat.le_of_ble_eq_true rfl) rfl (Nat.le_of_ble_eq_true rfl) rfl (Val.move rfl) ?_
                  refine TL.valYes rfl rfl (Nat.le_of_ble_eq_true rfl) rfl (Nat.le_of_ble_eq_true rfl) rfl (Val.move rfl) ?_
                  refine TL.gen (fun g40 hg40 => ?_)
                  cases g40 with
                  | false =>
                    refine TL.pass rfl rfl (Nat.le_of_ble_eq_true rfl) rfl (Nat.le_of_ble_eq_true rfl) rfl rfl ?_
                    refine TL.pass rfl rfl (Nat.le_of_ble_eq_true rfl) rfl (Nat.le_of_ble_eq_true rfl) rfl rfl ?_
                    first
                      | refine TL.valYes rfl rfl (Nat.le_of_ble_eq_true rfl) rfl (Nat.le_of_ble_eq_true rfl) rfl (Val.pickAnd rfl rfl rfl) ?_
                      | refine TL.valYes rfl rfl (Nat.le_of_ble_eq_true rfl) rfl (Nat.le_of_ble_eq_true rfl) rfl (Val.pickOr rfl rfl rfl) ?_
                      | refine TL.valYes rfl rfl (Nat.le_of_ble_eq_true rfl) rfl (Nat.le_of_ble_eq_true rfl) rfl (Val.pick rfl rfl rfl) ?_
                    first
                      | refine TL.valYes rfl rfl (Nat.le_of_ble_eq_true rfl) rfl (Nat.le_of_ble_eq_true rfl) rfl (Val.pickAnd rfl rfl rfl) ?_
                      | refine TL.valYes rfl rfl (Nat.le_of_ble_eq_true rfl) rfl (Nat.le_of_ble_eq_true rfl) rfl (Val.pickOr rfl rfl rfl) ?_
                      | refine TL.valYes rfl rfl (Nat.le_of_ble_eq_true rfl) rfl (Nat.le_of_ble_eq_true rfl) rfl (Val.pick rfl rfl rfl) ?_
                    first
                      | refine TL.val rfl rfl (Nat.le_of_ble_eq_true rfl) (Val.pickAnd rfl rfl rfl) ?_
                      | refine TL.val rfl rfl (Nat.le_of_ble_eq_true rfl) (Val.pickOr rfl rfl rfl) ?_
                      | refine TL.val rfl rfl (Nat.le_of_ble_eq_true rfl) (Val.pick rfl rfl rfl) ?_
                    refine TL.val rfl rfl (Nat.le_of_ble_eq_true rfl) (Val.move rfl) ?_
                    refine TL.gen (fun g41 hg41 => ?_)
                    cases g41 with
                    | false =>
                      refine TL.pass rfl rfl (Nat.le_of_ble_eq_true rfl) rfl (Nat.le_of_ble_eq_true rfl) rfl rfl ?_
                      refine TL.pass rfl rfl (Nat.le_of_ble_eq_true rfl) rfl (Nat.le_of_ble_eq_true rfl) rfl rfl ?_
                      refine TL.pass rfl rfl (Nat.le_of_ble_eq_true rfl) rfl (Nat.le_of_ble_eq_true rfl) rfl rfl ?_
                      refine TL.passU rfl rfl (Nat.le_of_ble_eq_true rfl) rfl (Nat.le_of_ble_eq_true rfl) rfl ?_
                      refine TL.passU rfl rfl (Nat.le_of_ble_eq_true rfl) rfl (Nat.le_of_ble_eq_true rfl) rfl ?_
                      refine TL.pass rfl rfl (Nat.le_of_ble_eq_true rfl) rfl (Nat.le_of_ble_eq_true rfl) rfl rfl ?_
                      first
                        | refine TL.val rfl rfl (Nat.le_of_ble_eq_true rfl) (Val.pickAnd rfl rfl rfl) ?_
                        | refine TL.val rfl rfl (Nat.le_of_ble_eq_true rfl) (Val.pickOr rfl rfl rfl) ?_
                        | refine TL.val rfl rfl (Nat.le_of_ble_eq_true rfl) (Val.pick rfl rfl rfl) ?_
                      refine TL.val rfl rfl (Nat.le_of_ble_eq_true rfl) (Val.assign rfl) ?_
                      refine TL.nil ?_
                      refine AtX.then ?_
                      refine TC.env (E' := [(8, _)]) (Sub.cons rfl (Sub.nil _)) ?_
                      refine TC.ret1 (fn := Try.f5) (fun _ _ h => h) rfl (RV.tmp rfl) (M' := M) (by repeat (first | refine ro_tail ?_ | refine ro_app ?_ | exact ro_refl | exact ro_pre)) ?_
                      first | exact ⟨rfl, rfl⟩ | (refine ⟨?_, rfl⟩; clear hL hlz hok hok2 hR hR2 hm hm2 hA hA2 hp hpl hkd hp2 hpl2 hkd2 hn hn2 hc hc2 hk0 hkl hlzl hl1 hLl hc7 hcz hcx c2; clear hk; grind)
                    | true =>
                      refine TL.valYes rfl rfl (Nat.le_of_ble_eq_true rfl) rfl (Nat.le_of_ble_eq_true rfl) rfl (Val.move rfl) ?_
                      refine TL.valYes rfl rfl (Nat.le_of_ble_eq_true rfl) rfl (Nat.le_of_ble_eq_true rfl) rfl (Val.not rfl) ?_
                      refine TL.valYes rfl rfl (Nat.le_of_ble_eq_true rfl) rfl (Nat.le_of_ble_eq_true rfl) rfl (Val.move rfl) ?_
                      refine TL.gen (fun g42 hg42 => ?_)
                      cases g42 with
                      | false =>
                        refine TL.valYes rfl rfl (Nat.le_of_ble_eq_true rfl) rfl (Nat.le_of_ble_eq_true rfl) rfl (Val.move rfl) ?_
                        refine TL.valYes rfl rfl (Nat.le_of_ble_eq_true rfl) rfl (Nat.le_of_ble_eq_true rfl) rfl (Val.not rfl) ?_
                        first
                          | refine TL.valYes rfl rfl (Nat.le_of_ble_eq_true rfl) rfl (Nat.le_of_ble_eq_true rfl) rfl (Val.pickAnd rfl rfl rfl) ?_
                          | refine TL.valYes rfl rfl (Nat.le_of_ble_eq_true rfl) rfl (Nat.le_of_ble_eq_true rfl) rfl (Val.pickOr rfl rfl rfl) ?_
                          | refine TL.valYes rfl rfl (Nat.le_of_ble_eq_true rfl) rfl (Nat.le_of_ble_eq_true rfl) rfl (Val.pick rfl rfl rfl) ?_
                        first
                          | refine TL.val rfl rfl (Nat.le_of_ble_eq_true rfl) (Val.pickAnd rfl rfl rfl) ?_
                          | refine TL.val rfl rfl (Nat.le_of_ble_eq_true rfl) (Val.pickOr rfl rfl rfl) ?_
                          | refine TL.val rfl rfl (Nat.le_of_ble_eq_true rfl) (Val.pick rfl rfl rfl) ?_
                        refine TL.val rfl rfl (Nat.le_of_ble_eq_true rfl) (Val.assign rfl) ?_
                        refine TL.nil ?_
                        refine AtX.then ?_
                        refine TC.env (E' := [(8, _)]) (Sub.cons rfl (Sub.nil _)) ?_
                        refine TC.ret1 (fn := Try.f5) (fun _ _ h => h) rfl (RV.tmp rfl) (M' := M) (by repeat (first | refine ro_tail ?_ | refine ro_app ?_ | exact ro_refl | exact ro_pre)) ?_
                        first | exact ⟨rfl, rfl⟩ | (refine ⟨?_, rfl⟩; clear hL hlz hok hok2 hR hR2 hm hm2 hA hA2 hp hpl hkd hp2 hpl2 hkd2 hn hn2 hc hc2 hk0 hkl hlzl hl1 hLl hc7 hcz hcx c2; clear hk; grind)
                      | true =>
                        refine TL.pass rfl rfl (Nat.le_of_ble_eq_true rfl) rfl (Nat.le_of_ble_eq_true rfl) rfl rfl ?_
                        refine TL.pass rfl rfl (Nat.le_of_ble_eq_true rfl) rfl (Nat.le_of_ble_eq_true rfl) rfl rfl ?_
                        first
                          | refine TL.valYes rfl rfl (Nat.le_of_ble_eq_true rfl) rfl (Nat.le_of_ble_eq_true rfl) rfl (Val.pickAnd rfl rfl rfl) ?_
                          | refine TL.valYes rfl rfl (Nat.le_of_ble_eq_true rfl) rfl (Nat.le_of_ble_eq_true rfl) rfl (Val.pickOr rfl rfl rfl) ?_
                          | refine TL.valYes rfl rfl (Nat.le_of_ble_eq_true rfl) rfl (Nat.le_of_ble_eq_true rfl) rfl (Val.pick rfl rfl rfl) ?_
                        first
                          | refine TL.val rfl rfl (Nat.le_of_ble_eq_true rfl) (Val.pickAnd rfl rfl rfl) ?_
                          | refine TL.val rfl rfl (Nat.le_of_ble_eq_true rfl) (Val.pickOr rfl rfl rfl) ?_
                          | refine TL.val rfl rfl (Nat.le_of_ble_eq_true rfl) (Val.pick rfl rfl rfl) ?_
                        refine TL.val rfl rfl (Nat.le_of_ble_eq_true rfl) (Val.assign rfl) ?_
                        refine TL.nil ?_
                        refine AtX.then ?_
                        refine TC.env (E' := [(8, _)]) (Sub.cons rfl (Sub.nil _)) ?_
                        refine TC.ret1 (fn := Try.f5) (fun _ _ h => h) rfl (RV.tmp rfl) (M' := M) (by repeat (first | refine ro_tail ?_ | refine ro_app ?_ | exact ro_refl | exact ro_pre)) ?_
                        first | exact ⟨rfl, rfl⟩ | (refine ⟨?_, rfl⟩; clear hL hlz hok hok2 hR hR2 hm hm2 hA hA2 hp hpl hkd hp2 hpl2 hkd2 hn hn2 hc hc2 hk0 hkl hlzl hl1 hLl hc7 hcz hcx c2; clear hk; grind)
                  | true =>
                    refine TL.valYes rfl rfl (Nat.le_of_ble_eq_true rfl) rfl (Nat.le_of_ble_eq_true rfl) rfl (Val.move rfl) ?_
                    refine TL.valYes rfl rfl (Nat.le_of_ble_eq_true rfl) rfl (Nat.le_of_ble_eq_true rfl) rfl (Val.eqlI rfl rfl) ?_
                    first
                      | refine TL.valYes rfl rfl (Nat.le_of_ble_eq_true rfl) rfl (Nat.le_of_ble_eq_true rfl) rfl (Val.pickAnd rfl rfl rfl) ?_
                      | refine TL.valYes rfl rfl (Nat.le_of_ble_eq_true rfl) rfl (Nat.le_of_ble_eq_true rfl) rfl (Val.pickOr rfl rfl rfl) ?_
                      | refine TL.valYes rfl rfl (Nat.le_of_ble_eq_true rfl) rfl (Nat.le_of_ble_eq_true rfl) rfl (Val.pick rfl rfl rfl) ?_
                    first
                      | refine TL.valYes rfl rfl (Nat.le_of_ble_eq_true rfl) rfl (Nat.le_of_ble_eq_true rfl) rfl (Val.pickAnd rfl rfl rfl) ?_
                      | refine TL.valYes rfl rfl (Nat.le_of_ble_eq_true rfl) rfl (Nat.le_of_ble_eq_true rfl) rfl (Val.pickOr rfl rfl rfl) ?_
                      | refine TL.valYes rfl rfl (Nat.le_of_ble_eq_true rfl) rfl (Nat.le_of_ble_eq_true rfl) rfl (Val.pick rfl rfl rfl) ?_
                    first
                      | refine TL.val rfl rfl (Nat.le_of_ble_eq_true rfl) (Val.pickAnd rfl rfl rfl) ?_
                      | refine TL.val rfl rfl (Nat.le_of_ble_eq_true rfl) (Val.pickOr rfl rfl rfl) ?_
                      | refine TL.val rfl rfl (Nat.le_of_ble_eq_true rfl) (Val.pick rfl rfl rfl) ?_
                    refine TL.val rfl rfl (Nat.le_of_ble_eq_true rfl) (Val.move rfl) ?_
                    refine TL.gen (fun g43 hg43 => ?_)
                    cases g43 with
                    | false =>
                      refine TL.pass rfl rfl (Nat.le_of_ble_eq_true rfl) rfl (Nat.le_of_ble_eq_true rfl) rfl rfl ?_
                      refine TL.pass rfl rfl (Nat.le_of_ble_eq_true rfl) rfl (Nat.le_of_ble_eq_true rfl) rfl rfl ?_
                      refine TL.pass rfl rfl (Nat.le_of_ble_eq_true rfl) rfl (Nat.le_of_ble_eq_true rfl) rfl rfl ?_
                      refine TL.passU rfl rfl (Nat.le_of_ble_eq_true rfl) rfl (Nat.le_of_ble_eq_true rfl) rfl ?_
                      refine TL.passU rfl rfl (Nat.le_of_ble_eq_true rfl) rfl (Nat.le_of_ble_eq_true rfl) rfl ?_
                      refine TL.pass rfl rfl (Nat.le_of_ble_eq_true rfl) rfl (Nat.le_of_ble_eq_true rfl) rfl rfl ?_
                      first
                        | refine TL.val rfl rfl (Nat.le_of_ble_eq_true rfl) (Val.pickAnd rfl rfl rfl) ?_
                        | refine TL.val rfl rfl (Nat.le_of_ble_eq_true rfl) (Val.pickOr rfl rfl rfl) ?_
                        | refine TL.val rfl rfl (Nat.le_of_ble_eq_true rfl) (Val.pick rfl rfl rfl) ?_
                      refine TL.val rfl rfl (Nat.le_of_ble_eq_true rfl) (Val.assign rfl) ?_
                      refine TL.nil ?_
                      refine AtX.then ?_
                      refine TC.env (E' := [(8, _)]) (Sub.cons rfl (Sub.nil _)) ?_
                      refine TC.ret1 (fn := Try.f5) (fun _ _ h => h) rfl (RV.tmp rfl) (M' := M) (by repeat (first | refine ro_tail ?_ | refine ro_app ?_ | exact ro_refl | exact ro_pre)) ?_
                      first | exact ⟨rfl, rfl⟩ | (refine ⟨?_, rfl⟩; clear hL hlz hok hok2 hR hR2 hm hm2 hA hA2 hp hpl hkd hp2 hpl2 hkd2 hn hn2 hc hc2 hk0 hkl hlzl hl1 hLl hc7 hcz hcx c2; clear hk; grind)
                    | true =>
                      refine TL.valYes rfl rfl (Nat.le_of_ble_eq_true rfl) rfl (Nat.le_of_ble_eq_true rfl) rfl (Val.move rfl) ?_
                      refine TL.valYes rfl rfl (Nat.le_of_ble_eq_true rfl) rfl (Nat.le_of_ble_eq_true rfl) rfl (Val.not rfl) ?_
                      refine TL.valYes rfl rfl (Nat.le_of_ble_eq_true rfl) rfl (Nat.le_of_ble_eq_true rfl) rfl (Val.move rfl) ?_
                      refine TL.gen (fun g44 hg44 => ?_)
                      cases g44 with
                      | false =>
                        refine TL.valYes rfl rfl (Nat.le_of_ble_eq_true rfl) rfl (Nat.le_of_ble_eq_true rfl) rfl (Val.move rfl) ?_
                        refine TL.valYes rfl rfl (Nat.le_of_ble_eq_true rfl) rfl (Nat.le_of_ble_eq_true rfl) rfl (Val.not rfl) ?_
                        first
                          | refine TL.valYes rfl rfl (Nat.le_of_ble_eq_true rfl) rfl (Nat.le_of_ble_eq_true rfl) rfl (Val.pickAnd rfl rfl rfl) ?_
                          | refine TL.valYes rfl rfl (Nat.le_of_ble_eq_true rfl) rfl (Nat.le_of_ble_eq_true rfl) rfl (Val.pickOr rfl rfl rfl) ?_
                          | refine TL.valYes rfl rfl (Nat.le_of_ble_eq_true rfl) rfl (Nat.le_of_ble_eq_true rfl) rfl (Val.pick rfl rfl rfl) ?_
                        first
                          | refine TL.val rfl rfl (Nat.le_of_ble_eq_true rfl) (Val.pickAnd rfl rfl rfl) ?_
                          | refine TL.val rfl rfl (Nat.le_of_ble_eq_true rfl) (Val.pickOr rfl rfl rfl) ?_
                          | refine TL.val rfl rfl (Nat.le_of_ble_eq_true rfl) (Val.pick rfl rfl rfl) ?_
                        refine TL.val rfl rfl (Nat.le_of_ble_eq_true rfl) (Val.assign rfl) ?_
                        refine TL.nil ?_
                        refine AtX.then ?_
                        refine TC.env (E' := [(8, _)]) (Sub.cons rfl (Sub.nil _)) ?_
                        refine TC.ret1 (fn := Try.f5) (fun _ _ h => h) rfl (RV.tmp rfl) (M' := M) (by repeat (first | refine ro_tail ?_ | refine ro_app ?_ | exact ro_refl | exact ro_pre)) ?_
                        first | exact ⟨rfl, rfl⟩ | (refine ⟨?_, rfl⟩; clear hL hlz hok hok2 hR hR2 hm hm2 hA hA2 hp hpl hkd hp2 hpl2 hkd2 hn hn2 hc hc2 hk0 hkl hlzl hl1 hLl hc7 hcz hcx c2; clear hk; grind)
                      | true =>
                        refine TL.pass rfl rfl (Nat.le_of_ble_eq_true rfl) rfl (Nat.le_of_ble_eq_true rfl) rfl rfl ?_
                        refine TL.pass rfl rfl (Nat.le_of_ble_eq_true rfl) rfl (Nat.le_of_ble_eq_true rfl) rfl rfl ?_
                        first
                          | refine TL.valYes rfl rfl (Nat.le_of_ble_eq_true rfl) rfl (Nat.le_of_ble_eq_true rfl) rfl (Val.pickAnd rfl rfl rfl) ?_
                          | refine TL.valYes rfl rfl (Nat.le_of_ble_eq_true rfl) rfl (Nat.le_of_ble_eq_true rfl) rfl (Val.pickOr rfl rfl rfl) ?_
                          | refine TL.valYes rfl rfl (Nat.le_of_ble_eq_true rfl) rfl (Nat.le_of_ble_eq_true rfl) rfl (Val.pick rfl rfl rfl) ?_
                        first
                          | refine TL.val rfl rfl (Nat.le_of_ble_eq_true rfl) (Val.pickAnd rfl rfl rfl) ?_
                          | refine TL.val rfl rfl (Nat.le_of_ble_eq_true rfl) (Val.pickOr rfl rfl rfl) ?_
                          | refine TL.val rfl rfl (Nat.le_of_ble_eq_true rfl) (Val.pick rfl rfl rfl) ?_
                        refine TL.val rfl rfl (Nat.le_of_ble_eq_true rfl) (Val.assign rfl) ?_
                        refine TL.nil ?_
                        refine AtX.then ?_
                        refine TC.env (E' := [(8, _)]) (Sub.cons rfl (Sub.nil _)) ?_
                        refine TC.ret1 (fn := Try.f5) (fun _ _ h => h) rfl (RV.tmp rfl) (M' := M) (by repeat (first | refine ro_tail ?_ | refine ro_app ?_ | exact ro_refl | exact ro_pre)) ?_
                        first | exact ⟨rfl, rfl⟩ | (refine ⟨?_, rfl⟩; clear hL hlz hok hok2 hR hR2 hm hm2 hA hA2 hp hpl hkd hp2 hpl2 hkd2 hn hn2 hc hc2 hk0 hkl hlzl hl1 hLl hc7 hcz hcx c2; clear hk; grind)
                | true =>
                  refine TL.pass rfl rfl (Nat.le_of_ble_eq_true rfl) rfl (Nat.le_of_ble_eq_true rfl) rfl rfl ?_
                  refine TL.pass rfl rfl (Nat.le_of_ble_eq_true rfl) rfl (Nat.le_of_ble_eq_true rfl) rfl rfl ?_
                  refine TL.passU rfl rfl (Nat.le_of_ble_eq_true rfl) rfl (Nat.le_of_ble_eq_true rfl) rfl ?_
                  refine TL.passU rfl rfl (Nat.le_of_ble_eq_true rfl) rfl (Nat.le_of_ble_eq_true rfl) rfl ?_
                  refine TL.pass rfl rfl (Nat.le_of_ble_eq_true rfl) rfl (Nat.le_of_ble_eq_true rfl) rfl rfl ?_
                  first
                    | refine TL.valYes rfl rfl (Nat.le_of_ble_eq_true rfl) rfl (Nat.le_of_ble_eq_true rfl) rfl (Val.pickAnd rfl rfl rfl) ?_
                    | refine TL.valYes rfl rfl (Nat.le_of_ble_eq_true rfl) rfl (Nat.le_of_ble_eq_true rfl) rfl (Val.pickOr rfl rfl rfl) ?_
                    | refine TL.valYes rfl rfl (Nat.le_of_ble_eq_true rfl) rfl (Nat.le_of_ble_eq_true rfl) rfl (Val.pick rfl rfl rfl) ?_
                  first
                    | refine TL.val rfl rfl (Nat.le_of_ble_eq_true rfl) (Val.pickAnd rfl rfl rfl) ?_
                    | refine TL.val rfl rfl (Nat.le_of_ble_eq_true rfl) (Val.pickOr rfl rfl rfl) ?_
                    | refine TL.val rfl rfl (Nat.le_of_ble_eq_true rfl) (Val.pick rfl rfl rfl) ?_
                  refine TL.val rfl rfl (Nat.le_of_ble_eq_true rfl) (Val.move rfl) ?_
                  refine TL.gen (fun g45 hg45 => ?_)
                  cases g45 with
                  | false =>
                    refine TL.pass rfl rfl (Nat.le_of_ble_eq_true rfl) rfl (Nat.le_of_ble_eq_true rfl) rfl rfl ?_
                    refine TL.pass rfl rfl (Nat.le_of_ble_eq_true rfl) rfl (Nat.le_of_ble_eq_true rfl) rfl rfl ?_
                    refine TL.pass rfl rfl (Nat.le_of_ble_eq_true rfl) rfl (Nat.le_of_ble_eq_true rfl) rfl rfl ?_
                    refine TL.passU rfl rfl (Nat.le_of_ble_eq_true rfl) rfl (Nat.le_of_ble_eq_true rfl) rfl ?_
                    refine TL.passU rfl rfl (Nat.le_of_ble_eq_true rfl) rfl (Nat.le_of_ble_eq_true rfl) rfl ?_
                    refine TL.pass rfl rfl (Nat.le_of_ble_eq_true rfl) rfl (Nat.le_of_ble_eq_true rfl) rfl rfl ?_
                    first
                      | refine TL.val rfl rfl (Nat.le_of_ble_eq_true rfl) (Val.pickAnd rfl rfl rfl) ?_
                      | refine TL.val rfl rfl (Nat.le_of_ble_eq_true rfl) (Val.pickOr rfl rfl rfl) ?_
                      | refine TL.val rfl rfl (Nat.le_of_ble_eq_true rfl) (Val.pick rfl rfl rfl) ?_
                    refine TL.val rfl rfl (Nat.le_of_ble_eq_true rfl) (Val.assign rfl) ?_
                    refine TL.nil ?_
                    refine AtX.then ?_
                    refine TC.env (E' := [(8, _)]) (Sub.cons rfl (Sub.nil _)) ?_
                    refine TC.ret1 (fn := Try.f5) (fun _ _ h => h) rfl (RV.tmp rfl) (M' := M) (by repeat (first | refine ro_tail ?_ | refine ro_app ?_ | exact ro_refl | exact ro_pre)) ?_
                    first | exact ⟨rfl, rfl⟩ | (refine ⟨?_, rfl⟩; clear hL hlz hok hok2 hR hR2 hm hm2 hA hA2 hp hpl hkd hp2 hpl2 hkd2 hn hn2 hc hc2 hk0 hkl hlzl hl1 hLl hc7 hcz hcx c2; clear hk; grind)
                  | true =>
                    refine TL.valYes rfl rfl (Nat.le_of_ble_eq_true rfl) rfl (Nat.le_of_ble_eq_true rfl) rfl (Val.move rfl) ?_
                    refine TL.valYes rfl rfl (Nat.le_of_ble_eq_true rfl) rfl (Nat.le_of_ble_eq_true rfl) rfl (Val.not rfl) ?_
                    refine TL.valYes rfl rfl (Nat.le_of_ble_eq_true rfl) rfl (Nat.le_of_ble_eq_true rfl) rfl (Val.move rfl) ?_
                    refine TL.gen (fun g46 hg46 => ?_)
                    cases g46 with
                    | false =>
                      refine TL.valYes rfl rfl (Nat.le_of_ble_eq_true rfl) rfl (Nat.le_of_ble_eq_true rfl) rfl (Val.move rfl) ?_
                      refine TL.valYes rfl rfl (Nat.le_of_ble_eq_true rfl) rfl (Nat.le_of_ble_eq_true rfl) rfl (Val.not rfl) ?_
                      first
                        | refine TL.valYes rfl rfl (Nat.le_of_ble_eq_true rfl) rfl (Nat.le_of_ble_eq_true rfl) rfl (Val.pickAnd rfl rfl rfl) ?_
                        | refine TL.valYes rfl rfl (Nat.le_of_ble_eq_true rfl) rfl (Nat.le_of_ble_eq_true rfl) rfl (Val.pickOr rfl rfl rfl) ?_
                        | refine TL.valYes rfl rfl (Nat.le_of_ble_eq_true rfl) rfl (Nat.le_of_ble_eq_true rfl) rfl (Val.pick rfl rfl rfl) ?_
                      first
                        | refine TL.val rfl rfl (Nat.le_of_ble_eq_true rfl) (Val.pickAnd rfl rfl rfl) ?_
                        | refine TL.val rfl rfl (Nat.le_of_ble_eq_true rfl) (Val.pickOr rfl rfl rfl) ?_
                        | refine TL.val rfl rfl (Nat.le_of_ble_eq_true rfl) (Val.pick rfl rfl rfl) ?_
                      refine TL.val rfl rfl (Nat.le_of_ble_eq_true rfl) (Val.assign rfl) ?_
                      refine TL.nil ?_
                      refine AtX.then ?_
                      refine TC.env (E' := [(8, _)]) (Sub.cons rfl (Sub.nil _)) ?_
                      refine TC.ret1 (fn := Try.f5) (fun _ _ h => h) rfl (RV.tmp rfl) (M' := M) (by repeat (first | refine ro_tail ?_ | refine ro_app ?_ | exact ro_refl | exact ro_pre)) ?_
                      first | exact ⟨rfl, rfl⟩ | (refine ⟨?_, rfl⟩; clear hL hlz hok hok2 hR hR2 hm hm2 hA hA2 hp hpl hkd hp2 hpl2 hkd2 hn hn2 hc hc2 hk0 hkl hlzl hl1 hLl hc7 hcz hcx c2; clear hk; grind)
                    | true =>
                      refine TL.pass rfl rfl (Nat.le_of_ble_eq_true rfl) rfl (Nat.le_of_ble_eq_true rfl) rfl rfl ?_
                      refine TL.pass rfl rfl (Nat.le_of_ble_eq_true rfl) rfl (Nat.le_of_ble_eq_true rfl) rfl rfl ?_
                      first
                        | refine TL.valYes rfl rfl (Nat.le_of_ble_eq_true rfl) rfl (Nat.le_of_ble_eq_true rfl) rfl (Val.pickAnd rfl rfl rfl) ?_
                        | refine TL.valYes rfl rfl (Nat.le_of_ble_eq_true rfl) rfl (Nat.le_of_ble_eq_true rfl) rfl (Val.pickOr rfl rfl rfl) ?_
                        | refine TL.valYes rfl rfl (Nat.le_of_ble_eq_true rfl) rfl (Nat.le_of_ble_eq_true rfl) rfl (Val.pick rfl rfl rfl) ?_
                      first
                        | refine TL.val rfl rfl (Nat.le_of_ble_eq_true rfl) (Val.pickAnd rfl rfl rfl) ?_
                        | refine TL.val rfl rfl (Nat.le_of_ble_eq_true rfl) (Val.pickOr rfl rfl rfl) ?_
                        | refine TL.val rfl rfl (Nat.le_of_ble_eq_true rfl) (Val.pick rfl rfl rfl) ?_
                      refine TL.val rfl rfl (Nat.le_of_ble_eq_true rfl) (Val.assign rfl) ?_
                      refine TL.nil ?_
                      refine AtX.then ?_
                      refine TC.env (E' := [(8, _)]) (Sub.cons rfl (Sub.nil _)) ?_
                      refine TC.ret1 (fn := Try.f5) (fun _ _ h => h) rfl (RV.tmp rfl) (M' := M) (by repeat (first | refine ro_tail ?_ | refine ro_app ?_ | exact ro_refl | exact ro_pre)) ?_
                      first | exact ⟨rfl, rfl⟩ | (refine ⟨?_, rfl⟩; clear hL hlz hok hok2 hR hR2 hm hm2 hA hA2 hp hpl hkd hp2 hpl2 hkd2 hn hn2 hc hc2 hk0 hkl hlzl hl1 hLl hc7 hcz hcx c2; clear hk; grind)

end Go.Proofs.Ytbjjjapdioegpaa
