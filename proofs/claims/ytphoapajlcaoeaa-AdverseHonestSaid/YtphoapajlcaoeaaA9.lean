/- walks -/
import Derived.Test.YtphoapajlcaoeaaA6
import Derived.Test.YtphoapajlcaoeaaES6
import Derived.Test.YtphoapajlcaoeaaE13
import Derived.Test.YtphoapajlcaoeaaE9d
set_option linter.unusedVariables false
set_option linter.unusedSimpArgs false
set_option maxRecDepth 100000
set_option maxHeartbeats 4000000
namespace Go.Proofs.Ytphoapajlcaoeaa
open Go Go.X
/-- quorumite/wire.in -/
theorem in_true (n lo hi : Int) (M : Hp) (h : lo ≤ n ∧ n ≤ hi) : FnC Try.prog 84 #[.int .i64 n, .int .i64 lo, .int .i64 hi] M (fun v M' => v = .bool true ∧ M = M') := by
  refine FnC.intro Try.func84 rfl 15 rfl (by simp) (fun z => ?_)
  refine TC.env (E' := [(0, _), (1, _), (2, _)]) (Sub.cons rfl (Sub.cons rfl (Sub.cons rfl (Sub.nil _)))) ?_
  refine TC.seq ?_
  refine TC.region ?_
  refine TL.val rfl rfl (Nat.le_of_ble_eq_true rfl) (Val.assign rfl) ?_
  refine TL.nil ?_
  refine AtX.then ?_
  refine TC.seq ?_
  refine TC.region ?_
  refine TL.val rfl rfl (Nat.le_of_ble_eq_true rfl) (Val.move rfl) ?_
  refine TL.val rfl rfl (Nat.le_of_ble_eq_true rfl) (Val.move rfl) ?_
  refine TL.val rfl rfl (Nat.le_of_ble_eq_true rfl) (Val.same (v' := .bool true) (Val.geq rfl rfl) (by rw [decide_eq_true h.1])) ?_
  refine TL.val rfl rfl (Nat.le_of_ble_eq_true rfl) (Val.move rfl) ?_
  refine TL.valYes rfl rfl (Nat.le_of_ble_eq_true rfl) rfl (Nat.le_of_ble_eq_true rfl) rfl (Val.move rfl) ?_
  refine TL.valYes rfl rfl (Nat.le_of_ble_eq_true rfl) rfl (Nat.le_of_ble_eq_true rfl) rfl (Val.move rfl) ?_
  refine TL.valYes rfl rfl (Nat.le_of_ble_eq_true rfl) rfl (Nat.le_of_ble_eq_true rfl) rfl (Val.same (v' := .bool true) (Val.leq rfl rfl) (by rw [decide_eq_true h.2])) ?_
  first
    | refine TL.val rfl rfl (Nat.le_of_ble_eq_true rfl) (Val.pickAnd rfl rfl rfl) ?_
    | refine TL.val rfl rfl (Nat.le_of_ble_eq_true rfl) (Val.pickOr rfl rfl rfl) ?_
    | refine TL.val rfl rfl (Nat.le_of_ble_eq_true rfl) (Val.pick rfl rfl rfl) ?_
  refine TL.val rfl rfl (Nat.le_of_ble_eq_true rfl) (Val.assign rfl) ?_
  refine TL.nil ?_
  refine AtX.then ?_
  refine TC.env (E' := [(6, _)]) (Sub.cons rfl (Sub.nil _)) ?_
  refine TC.ret1 (fn := Try.f84) (fun _ _ h => h) rfl (RV.tmp rfl) (fun _ h => h) ?_
  exact ⟨rfl, rfl⟩

/-- quorumite/wire.May -/
theorem May_true (m : Ms) (M : Hp) (hm : mayM m = true) : FnC Try.prog 47 #[.agg #[.int .i64 m.kind, .int .i64 m.who, .int .i64 m.gen, .int .i64 m.seq, .int .i64 m.epoch, .int .i64 m.value, .int .i64 m.metric]] M (fun v M' => v = .bool true ∧ M = M') := by
  obtain ⟨hk, hw, hg, hs, he, hme, hv⟩ := mayM_iff.1 hm
  refine FnC.intro Try.func47 rfl 43 rfl (by simp) (fun z => ?_)
  refine TC.env (E' := [(0, _)]) (Sub.cons rfl (Sub.nil _)) ?_
  refine TC.seq ?_
  refine TC.region ?_
  refine TL.does (some 1) rfl rfl rfl (Does.box rfl rfl) ?_
  rintro _ _ ⟨b1, rfl, rfl⟩
  refine TL.val rfl rfl (Nat.le_of_ble_eq_true rfl) (Val.assign rfl) ?_
  refine TL.nil ?_
  refine AtX.then ?_
  refine TC.env (E' := [(1, _), (2, _)]) (Sub.cons rfl (Sub.cons rfl (Sub.nil _))) ?_
  refine TC.seq ?_
  refine TC.region ?_
  refine TL.val rfl rfl (Nat.le_of_ble_eq_true rfl) (Val.assign rfl) ?_
  refine TL.val rfl rfl (Nat.le_of_ble_eq_true rfl) (Val.assign rfl) ?_
  refine TL.nil ?_
  refine AtX.then ?_
  refine TC.env (E' := [(1, _), (2, _), (3, _), (4, _)]) (Sub.cons rfl (Sub.cons rfl (Sub.cons rfl (Sub.cons rfl (Sub.nil _))))) ?_
  refine TC.seq ?_
  refine TC.seq ?_
  refine TC.region ?_
  refine TL.val rfl rfl (Nat.le_of_ble_eq_true rfl) (Val.fieldAddr rfl fl61_0 sz3 rfl) ?_
  first
    | refine TL.val rfl rfl (Nat.le_of_ble_eq_true rfl) (Val.load 0 rfl ag3 rfl rfl) ?_
    | refine TL.val rfl rfl (Nat.le_of_ble_eq_true rfl) (Val.load 1 rfl ag3 rfl rfl) ?_
    | refine TL.val rfl rfl (Nat.le_of_ble_eq_true rfl) (Val.load 2 rfl ag3 rfl rfl) ?_
    | refine TL.val rfl rfl (Nat.le_of_ble_eq_true rfl) (Val.load 3 rfl ag3 rfl rfl) ?_
    | refine TL.val rfl rfl (Nat.le_of_ble_eq_true rfl) (Val.load 4 rfl ag3 rfl rfl) ?_
    | refine TL.val rfl rfl (Nat.le_of_ble_eq_true rfl) (Val.load 5 rfl ag3 rfl rfl) ?_
  refine TL.val rfl rfl (Nat.le_of_ble_eq_true rfl) (Val.eqlI rfl rfl) ?_
  refine TL.nil ?_
  refine AtX.then ?_
  refine TC.env (E' := [(1, _), (2, _), (3, _), (4, _), (7, _)]) (Sub.cons rfl (Sub.cons rfl (Sub.cons rfl (Sub.cons rfl (Sub.cons rfl (Sub.nil _)))))) ?_
  first | refine TC.condP rfl (fun c1 => ?_) (fun c1 => ?_) | refine TC.condN rfl (fun c1 => ?_) (fun c1 => ?_) | refine TC.condB rfl (fun c1 => ?_) (fun c1 => ?_) | refine TC.cond rfl (fun c1 => ?_) (fun c1 => ?_)
  · skip
    refine TC.env (E' := [(1, _), (2, _), (3, _), (4, _)]) (Sub.cons rfl (Sub.cons rfl (Sub.cons rfl (Sub.cons rfl (Sub.nil _))))) ?_
    refine TC.region ?_
    refine TL.val rfl rfl (Nat.le_of_ble_eq_true rfl) (Val.assign rfl) ?_
    refine TL.val rfl rfl (Nat.le_of_ble_eq_true rfl) (Val.assign rfl) ?_
    refine TL.nil ?_
    refine AtX.then ?_
    refine TC.env (E' := [(1, _), (2, _), (3, _), (4, _)]) (Sub.cons rfl (Sub.cons rfl (Sub.cons rfl (Sub.cons rfl (Sub.nil _))))) ?_
    refine TC.seq ?_
    refine TC.region ?_
    refine TL.val rfl rfl (Nat.le_of_ble_eq_true rfl) (Val.fieldAddr rfl fl61_0 sz3 rfl) ?_
    first
      | refine TL.val rfl rfl (Nat.le_of_ble_eq_true rfl) (Val.load 0 rfl ag3 rfl rfl) ?_
      | refine TL.val rfl rfl (Nat.le_of_ble_eq_true rfl) (Val.load 1 rfl ag3 rfl rfl) ?_
      | refine TL.val rfl rfl (Nat.le_of_ble_eq_true rfl) (Val.load 2 rfl ag3 rfl rfl) ?_
      | refine TL.val rfl rfl (Nat.le_of_ble_eq_true rfl) (Val.load 3 rfl ag3 rfl rfl) ?_
      | refine TL.val rfl rfl (Nat.le_of_ble_eq_true rfl) (Val.load 4 rfl ag3 rfl rfl) ?_
      | refine TL.val rfl rfl (Nat.le_of_ble_eq_true rfl) (Val.load 5 rfl ag3 rfl rfl) ?_
    refine TL.does (some 10) rfl rfl rfl (Does.callF go84 rfl (in_true _ _ _ _ ⟨by omega, by omega⟩)) ?_
    rintro _ _ ⟨rfl, rfl⟩
    refine TL.val rfl rfl (Nat.le_of_ble_eq_true rfl) (Val.move rfl) ?_
    refine TL.valYes rfl rfl (Nat.le_of_ble_eq_true rfl) rfl (Nat.le_of_ble_eq_true rfl) rfl (Val.fieldAddr rfl fl61_1 sz3 rfl) ?_
    first
      | refine TL.valYes rfl rfl (Nat.le_of_ble_eq_true rfl) rfl (Nat.le_of_ble_eq_true rfl) rfl (Val.load 0 rfl ag3 rfl rfl) ?_
      | refine TL.valYes rfl rfl (Nat.le_of_ble_eq_true rfl) rfl (Nat.le_of_ble_eq_true rfl) rfl (Val.load 1 rfl ag3 rfl rfl) ?_
      | refine TL.valYes rfl rfl (Nat.le_of_ble_eq_true rfl) rfl (Nat.le_of_ble_eq_true rfl) rfl (Val.load 2 rfl ag3 rfl rfl) ?_
      | refine TL.valYes rfl rfl (Nat.le_of_ble_eq_true rfl) rfl (Nat.le_of_ble_eq_true rfl) rfl (Val.load 3 rfl ag3 rfl rfl) ?_
      | refine TL.valYes rfl rfl (Nat.le_of_ble_eq_true rfl) rfl (Nat.le_of_ble_eq_true rfl) rfl (Val.load 4 rfl ag3 rfl rfl) ?_
      | refine TL.valYes rfl rfl (Nat.le_of_ble_eq_true rfl) rfl (Nat.le_of_ble_eq_true rfl) rfl (Val.load 5 rfl ag3 rfl rfl) ?_
    refine TL.doesYes (some 14) rfl rfl rfl (Nat.le_of_ble_eq_true rfl) rfl rfl (Does.callF go84 rfl (in_true _ _ _ _ ⟨by omega, by omega⟩)) ?_
    rintro _ _ ⟨rfl, rfl⟩
    first
      | refine TL.val rfl rfl (Nat.le_of_ble_eq_true rfl) (Val.pickAnd rfl rfl rfl) ?_
      | refine TL.val rfl rfl (Nat.le_of_ble_eq_true rfl) (Val.pickOr rfl rfl rfl) ?_
      | refine TL.val rfl rfl (Nat.le_of_ble_eq_true rfl) (Val.pick rfl rfl rfl) ?_
    refine TL.val rfl rfl (Nat.le_of_ble_eq_true rfl) (Val.move rfl) ?_
    refine TL.valYes rfl rfl (Nat.le_of_ble_eq_true rfl) rfl (Nat.le_of_ble_eq_true rfl) rfl (Val.fieldAddr rfl fl61_2 sz3 rfl) ?_
    first
      | refine TL.valYes rfl rfl (Nat.le_of_ble_eq_true rfl) rfl (Nat.le_of_ble_eq_true rfl) rfl (Val.load 0 rfl ag3 rfl rfl) ?_
      | refine TL.valYes rfl rfl (Nat.le_of_ble_eq_true rfl) rfl (Nat.le_of_ble_eq_true rfl) rfl (Val.load 1 rfl ag3 rfl rfl) ?_
      | refine TL.valYes rfl rfl (Nat.le_of_ble_eq_true rfl) rfl (Nat.le_of_ble_eq_true rfl) rfl (Val.load 2 rfl ag3 rfl rfl) ?_
      | refine TL.valYes rfl rfl (Nat.le_of_ble_eq_true rfl) rfl (Nat.le_of_ble_eq_true rfl) rfl (Val.load 3 rfl ag3 rfl rfl) ?_
      | refine TL.valYes rfl rfl (Nat.le_of_ble_eq_true rfl) rfl (Nat.le_of_ble_eq_true rfl) rfl (Val.load 4 rfl ag3 rfl rfl) ?_
      | refine TL.valYes rfl rfl (Nat.le_of_ble_eq_true rfl) rfl (Nat.le_of_ble_eq_true rfl) rfl (Val.load 5 rfl ag3 rfl rfl) ?_
    refine TL.doesYes (some 19) rfl rfl rfl (Nat.le_of_ble_eq_true rfl) rfl rfl (Does.callF go84 rfl (in_true _ _ _ _ ⟨by omega, by omega⟩)) ?_
    rintro _ _ ⟨rfl, rfl⟩
    first
      | refine TL.val rfl rfl (Nat.le_of_ble_eq_true rfl) (Val.pickAnd rfl rfl rfl) ?_
      | refine TL.val rfl rfl (Nat.le_of_ble_eq_true rfl) (Val.pickOr rfl rfl rfl) ?_
      | refine TL.val rfl rfl (Nat.le_of_ble_eq_true rfl) (Val.pick rfl rfl rfl) ?_
    refine TL.val rfl rfl (Nat.le_of_ble_eq_true rfl) (Val.move rfl) ?_
    refine TL.valYes rfl rfl (Nat.le_of_ble_eq_true rfl) rfl (Nat.le_of_ble_eq_true rfl) rfl (Val.fieldAddr rfl fl61_3 sz2 rfl) ?_
    first
      | refine TL.valYes rfl rfl (Nat.le_of_ble_eq_true rfl) rfl (Nat.le_of_ble_eq_true rfl) rfl (Val.load 0 rfl ag2 rfl rfl) ?_
      | refine TL.valYes rfl rfl (Nat.le_of_ble_eq_true rfl) rfl (Nat.le_of_ble_eq_true rfl) rfl (Val.load 1 rfl ag2 rfl rfl) ?_
      | refine TL.valYes rfl rfl (Nat.le_of_ble_eq_true rfl) rfl (Nat.le_of_ble_eq_true rfl) rfl (Val.load 2 rfl ag2 rfl rfl) ?_
      | refine TL.valYes rfl rfl (Nat.le_of_ble_eq_true rfl) rfl (Nat.le_of_ble_eq_true rfl) rfl (Val.load 3 rfl ag2 rfl rfl) ?_
      | refine TL.valYes rfl rfl (Nat.le_of_ble_eq_true rfl) rfl (Nat.le_of_ble_eq_true rfl) rfl (Val.load 4 rfl ag2 rfl rfl) ?_
      | refine TL.valYes rfl rfl (Nat.le_of_ble_eq_true rfl) rfl (Nat.le_of_ble_eq_true rfl) rfl (Val.load 5 rfl ag2 rfl rfl) ?_
    refine TL.doesYes (some 24) rfl rfl rfl (Nat.le_of_ble_eq_true rfl) rfl rfl (Does.callF go84 rfl (in_true _ _ _ _ ⟨by omega, by omega⟩)) ?_
    rintro _ _ ⟨rfl, rfl⟩
    first
      | refine TL.val rfl rfl (Nat.le_of_ble_eq_true rfl) (Val.pickAnd rfl rfl rfl) ?_
      | refine TL.val rfl rfl (Nat.le_of_ble_eq_true rfl) (Val.pickOr rfl rfl rfl) ?_
      | refine TL.val rfl rfl (Nat.le_of_ble_eq_true rfl) (Val.pick rfl rfl rfl) ?_
    refine TL.val rfl rfl (Nat.le_of_ble_eq_true rfl) (Val.move rfl) ?_
    refine TL.valYes rfl rfl (Nat.le_of_ble_eq_true rfl) rfl (Nat.le_of_ble_eq_true rfl) rfl (Val.fieldAddr rfl fl61_4 sz2 rfl) ?_
    first
      | refine TL.valYes rfl rfl (Nat.le_of_ble_eq_true rfl) rfl (Nat.le_of_ble_eq_true rfl) rfl (Val.load 0 rfl ag2 rfl rfl) ?_
      | refine TL.valYes rfl rfl (Nat.le_of_ble_eq_true rfl) rfl (Nat.le_of_ble_eq_true rfl) rfl (Val.load 1 rfl ag2 rfl rfl) ?_
      | refine TL.valYes rfl rfl (Nat.le_of_ble_eq_true rfl) rfl (Nat.le_of_ble_eq_true rfl) rfl (Val.load 2 rfl ag2 rfl rfl) ?_
      | refine TL.valYes rfl rfl (Nat.le_of_ble_eq_true rfl) rfl (Nat.le_of_ble_eq_true rfl) rfl (Val.load 3 rfl ag2 rfl rfl) ?_
      | refine TL.valYes rfl rfl (Nat.le_of_ble_eq_true rfl) rfl (Nat.le_of_ble_eq_true rfl) rfl (Val.load 4 rfl ag2 rfl rfl) ?_
      | refine TL.valYes rfl rfl (Nat.le_of_ble_eq_true rfl) rfl (Nat.le_of_ble_eq_true rfl) rfl (Val.load 5 rfl ag2 rfl rfl) ?_
    refine TL.doesYes (some 29) rfl rfl rfl (Nat.le_of_ble_eq_true rfl) rfl rfl (Does.callF go84 rfl (in_true _ _ _ _ ⟨by omega, by omega⟩)) ?_
    rintro _ _ ⟨rfl, rfl⟩
    first
      | refine TL.val rfl rfl (Nat.le_of_ble_eq_true rfl) (Val.pickAnd rfl rfl rfl) ?_
      | refine TL.val rfl rfl (Nat.le_of_ble_eq_true rfl) (Val.pickOr rfl rfl rfl) ?_
      | refine TL.val rfl rfl (Nat.le_of_ble_eq_true rfl) (Val.pick rfl rfl rfl) ?_
    refine TL.val rfl rfl (Nat.le_of_ble_eq_true rfl) (Val.move rfl) ?_
    refine TL.valYes rfl rfl (Nat.le_of_ble_eq_true rfl) rfl (Nat.le_of_ble_eq_true rfl) rfl (Val.fieldAddr rfl fl61_6 sz3 rfl) ?_
    first
      | refine TL.valYes rfl rfl (Nat.le_of_ble_eq_true rfl) rfl (Nat.le_of_ble_eq_true rfl) rfl (Val.load 0 rfl ag3 rfl rfl) ?_
      | refine TL.valYes rfl rfl (Nat.le_of_ble_eq_true rfl) rfl (Nat.le_of_ble_eq_true rfl) rfl (Val.load 1 rfl ag3 rfl rfl) ?_
      | refine TL.valYes rfl rfl (Nat.le_of_ble_eq_true rfl) rfl (Nat.le_of_ble_eq_true rfl) rfl (Val.load 2 rfl ag3 rfl rfl) ?_
      | refine TL.valYes rfl rfl (Nat.le_of_ble_eq_true rfl) rfl (Nat.le_of_ble_eq_true rfl) rfl (Val.load 3 rfl ag3 rfl rfl) ?_
      | refine TL.valYes rfl rfl (Nat.le_of_ble_eq_true rfl) rfl (Nat.le_of_ble_eq_true rfl) rfl (Val.load 4 rfl ag3 rfl rfl) ?_
      | refine TL.valYes rfl rfl (Nat.le_of_ble_eq_true rfl) rfl (Nat.le_of_ble_eq_true rfl) rfl (Val.load 5 rfl ag3 rfl rfl) ?_
    refine TL.valYes rfl rfl (Nat.le_of_ble_eq_true rfl) rfl (Nat.le_of_ble_eq_true rfl) rfl (Val.move rfl) ?_
    refine TL.doesYes (some 35) rfl rfl rfl (Nat.le_of_ble_eq_true rfl) rfl rfl (Does.callF go84 rfl (in_true _ _ _ _ ⟨by omega, by omega⟩)) ?_
    rintro _ _ ⟨rfl, rfl⟩
    first
      | refine TL.val rfl rfl (Nat.le_of_ble_eq_true rfl) (Val.pickAnd rfl rfl rfl) ?_
      | refine TL.val rfl rfl (Nat.le_of_ble_eq_true rfl) (Val.pickOr rfl rfl rfl) ?_
      | refine TL.val rfl rfl (Nat.le_of_ble_eq_true rfl) (Val.pick rfl rfl rfl) ?_
    refine TL.val rfl rfl (Nat.le_of_ble_eq_true rfl) (Val.move rfl) ?_
    refine TL.valYes rfl rfl (Nat.le_of_ble_eq_true rfl) rfl (Nat.le_of_ble_eq_true rfl) rfl (Val.fieldAddr rfl fl61_5 sz2 rfl) ?_
    first
      | refine TL.valYes rfl rfl (Nat.le_of_ble_eq_true rfl) rfl (Nat.le_of_ble_eq_true rfl) rfl (Val.load 0 rfl ag2 rfl rfl) ?_
      | refine TL.valYes rfl rfl (Nat.le_of_ble_eq_true rfl) rfl (Nat.le_of_ble_eq_true rfl) rfl (Val.load 1 rfl ag2 rfl rfl) ?_
      | refine TL.valYes rfl rfl (Nat.le_of_ble_eq_true rfl) rfl (Nat.le_of_ble_eq_true rfl) rfl (Val.load 2 rfl ag2 rfl rfl) ?_
      | refine TL.valYes rfl rfl (Nat.le_of_ble_eq_true rfl) rfl (Nat.le_of_ble_eq_true rfl) rfl (Val.load 3 rfl ag2 rfl rfl) ?_
      | refine TL.valYes rfl rfl (Nat.le_of_ble_eq_true rfl) rfl (Nat.le_of_ble_eq_true rfl) rfl (Val.load 4 rfl ag2 rfl rfl) ?_
      | refine TL.valYes rfl rfl (Nat.le_of_ble_eq_true rfl) rfl (Nat.le_of_ble_eq_true rfl) rfl (Val.load 5 rfl ag2 rfl rfl) ?_
    refine TL.valYes rfl rfl (Nat.le_of_ble_eq_true rfl) rfl (Nat.le_of_ble_eq_true rfl) rfl (Val.move rfl) ?_
    refine TL.doesYes (some 41) rfl rfl rfl (Nat.le_of_ble_eq_true rfl) rfl rfl (Does.callF go84 rfl (in_true _ _ _ _ ⟨by omega, by omega⟩)) ?_
    rintro _ _ ⟨rfl, rfl⟩
    first
      | refine TL.val rfl rfl (Nat.le_of_ble_eq_true rfl) (Val.pickAnd rfl rfl rfl) ?_
      | refine TL.val rfl rfl (Nat.le_of_ble_eq_true rfl) (Val.pickOr rfl rfl rfl) ?_
      | refine TL.val rfl rfl (Nat.le_of_ble_eq_true rfl) (Val.pick rfl rfl rfl) ?_
    refine TL.val rfl rfl (Nat.le_of_ble_eq_true rfl) (Val.assign rfl) ?_
    refine TL.nil ?_
    refine AtX.then ?_
    refine TC.env (E' := [(2, _)]) (Sub.cons rfl (Sub.nil _)) ?_
    refine TC.ret1 (fn := Try.f47) (fun _ _ h => h) rfl (RV.tmp rfl) (M' := M) (by repeat (first | exact ro_refl | exact ro_pre | refine ro_tail ?_ | refine ro_app ?_)) ?_
    exact ⟨rfl, rfl⟩
  · skip
    refine TC.env (E' := [(1, _), (2, _), (3, _), (4, _)]) (Sub.cons rfl (Sub.cons rfl (Sub.cons rfl (Sub.cons rfl (Sub.nil _))))) ?_
    refine TC.skip ?_
    refine AtX.then ?_
    refine TC.env (E' := [(1, _), (2, _), (3, _), (4, _)]) (Sub.cons rfl (Sub.cons rfl (Sub.cons rfl (Sub.cons rfl (Sub.nil _))))) ?_
    refine TC.seq ?_
    refine TC.region ?_
    refine TL.val rfl rfl (Nat.le_of_ble_eq_true rfl) (Val.fieldAddr rfl fl61_0 sz3 rfl) ?_
    first
      | refine TL.val rfl rfl (Nat.le_of_ble_eq_true rfl) (Val.load 0 rfl ag3 rfl rfl) ?_
      | refine TL.val rfl rfl (Nat.le_of_ble_eq_true rfl) (Val.load 1 rfl ag3 rfl rfl) ?_
      | refine TL.val rfl rfl (Nat.le_of_ble_eq_true rfl) (Val.load 2 rfl ag3 rfl rfl) ?_
      | refine TL.val rfl rfl (Nat.le_of_ble_eq_true rfl) (Val.load 3 rfl ag3 rfl rfl) ?_
      | refine TL.val rfl rfl (Nat.le_of_ble_eq_true rfl) (Val.load 4 rfl ag3 rfl rfl) ?_
      | refine TL.val rfl rfl (Nat.le_of_ble_eq_true rfl) (Val.load 5 rfl ag3 rfl rfl) ?_
    refine TL.does (some 10) rfl rfl rfl (Does.callF go84 rfl (in_true _ _ _ _ ⟨by omega, by omega⟩)) ?_
    rintro _ _ ⟨rfl, rfl⟩
    refine TL.val rfl rfl (Nat.le_of_ble_eq_true rfl) (Val.move rfl) ?_
    refine TL.valYes rfl rfl (Nat.le_of_ble_eq_true rfl) rfl (Nat.le_of_ble_eq_true rfl) rfl (Val.fieldAddr rfl fl61_1 sz3 rfl) ?_
    first
      | refine TL.valYes rfl rfl (Nat.le_of_ble_eq_true rfl) rfl (Nat.le_of_ble_eq_true rfl) rfl (Val.load 0 rfl ag3 rfl rfl) ?_
      | refine TL.valYes rfl rfl (Nat.le_of_ble_eq_true rfl) rfl (Nat.le_of_ble_eq_true rfl) rfl (Val.load 1 rfl ag3 rfl rfl) ?_
      | refine TL.valYes rfl rfl (Nat.le_of_ble_eq_true rfl) rfl (Nat.le_of_ble_eq_true rfl) rfl (Val.load 2 rfl ag3 rfl rfl) ?_
      | refine TL.valYes rfl rfl (Nat.le_of_ble_eq_true rfl) rfl (Nat.le_of_ble_eq_true rfl) rfl (Val.load 3 rfl ag3 rfl rfl) ?_
      | refine TL.valYes rfl rfl (Nat.le_of_ble_eq_true rfl) rfl (Nat.le_of_ble_eq_true rfl) rfl (Val.load 4 rfl ag3 rfl rfl) ?_
      | refine TL.valYes rfl rfl (Nat.le_of_ble_eq_true rfl) rfl (Nat.le_of_ble_eq_true rfl) rfl (Val.load 5 rfl ag3 rfl rfl) ?_
    refine TL.doesYes (some 14) rfl rfl rfl (Nat.le_of_ble_eq_true rfl) rfl rfl (Does.callF go84 rfl (in_true _ _ _ _ ⟨by omega, by omega⟩)) ?_
    rintro _ _ ⟨rfl, rfl⟩
    first
      | refine TL.val rfl rfl (Nat.le_of_ble_eq_true rfl) (Val.pickAnd rfl rfl rfl) ?_
      | refine TL.val rfl rfl (Nat.le_of_ble_eq_true rfl) (Val.pickOr rfl rfl rfl) ?_
      | refine TL.val rfl rfl (Nat.le_of_ble_eq_true rfl) (Val.pick rfl rfl rfl) ?_
    refine TL.val rfl rfl (Nat.le_of_ble_eq_true rfl) (Val.move rfl) ?_
    refine TL.valYes rfl rfl (Nat.le_of_ble_eq_true rfl) rfl (Nat.le_of_ble_eq_true rfl) rfl (Val.fieldAddr rfl fl61_2 sz3 rfl) ?_
    first
      | refine TL.valYes rfl rfl (Nat.le_of_ble_eq_true rfl) rfl (Nat.le_of_ble_eq_true rfl) rfl (Val.load 0 rfl ag3 rfl rfl) ?_
      | refine TL.valYes rfl rfl (Nat.le_of_ble_eq_true rfl) rfl (Nat.le_of_ble_eq_true rfl) rfl (Val.load 1 rfl ag3 rfl rfl) ?_
      | refine TL.valYes rfl rfl (Nat.le_of_ble_eq_true rfl) rfl (Nat.le_of_ble_eq_true rfl) rfl (Val.load 2 rfl ag3 rfl rfl) ?_
      | refine TL.valYes rfl rfl (Nat.le_of_ble_eq_true rfl) rfl (Nat.le_of_ble_eq_true rfl) rfl (Val.load 3 rfl ag3 rfl rfl) ?_
      | refine TL.valYes rfl rfl (Nat.le_of_ble_eq_true rfl) rfl (Nat.le_of_ble_eq_true rfl) rfl (Val.load 4 rfl ag3 rfl rfl) ?_
      | refine TL.valYes rfl rfl (Nat.le_of_ble_eq_true rfl) rfl (Nat.le_of_ble_eq_true rfl) rfl (Val.load 5 rfl ag3 rfl rfl) ?_
    refine TL.doesYes (some 19) rfl rfl rfl (Nat.le_of_ble_eq_true rfl) rfl rfl (Does.callF go84 rfl (in_true _ _ _ _ ⟨by omega, by omega⟩)) ?_
    rintro _ _ ⟨rfl, rfl⟩
    first
      | refine TL.val rfl rfl (Nat.le_of_ble_eq_true rfl) (Val.pickAnd rfl rfl rfl) ?_
      | refine TL.val rfl rfl (Nat.le_of_ble_eq_true rfl) (Val.pickOr rfl rfl rfl) ?_
      | refine TL.val rfl rfl (Nat.le_of_ble_eq_true rfl) (Val.pick rfl rfl rfl) ?_
    refine TL.val rfl rfl (Nat.le_of_ble_eq_true rfl) (Val.move rfl) ?_
    refine TL.valYes rfl rfl (Nat.le_of_ble_eq_true rfl) rfl (Nat.le_of_ble_eq_true rfl) rfl (Val.fieldAddr rfl fl61_3 sz2 rfl) ?_
    first
      | refine TL.valYes rfl rfl (Nat.le_of_ble_eq_true rfl) rfl (Nat.le_of_ble_eq_true rfl) rfl (Val.load 0 rfl ag2 rfl rfl) ?_
      | refine TL.valYes rfl rfl (Nat.le_of_ble_eq_true rfl) rfl (Nat.le_of_ble_eq_true rfl) rfl (Val.load 1 rfl ag2 rfl rfl) ?_
      | refine TL.valYes rfl rfl (Nat.le_of_ble_eq_true rfl) rfl (Nat.le_of_ble_eq_true rfl) rfl (Val.load 2 rfl ag2 rfl rfl) ?_
      | refine TL.valYes rfl rfl (Nat.le_of_ble_eq_true rfl) rfl (Nat.le_of_ble_eq_true rfl) rfl (Val.load 3 rfl ag2 rfl rfl) ?_
      | refine TL.valYes rfl rfl (Nat.le_of_ble_eq_true rfl) rfl (Nat.le_of_ble_eq_true rfl) rfl (Val.load 4 rfl ag2 rfl rfl) ?_
      | refine TL.valYes rfl rfl (Nat.le_of_ble_eq_true rfl) rfl (Nat.le_of_ble_eq_true rfl) rfl (Val.load 5 rfl ag2 rfl rfl) ?_
    refine TL.doesYes (some 24) rfl rfl rfl (Nat.le_of_ble_eq_true rfl) rfl rfl (Does.callF go84 rfl (in_true _ _ _ _ ⟨by omega, by omega⟩)) ?_
    rintro _ _ ⟨rfl, rfl⟩
    first
      | refine TL.val rfl rfl (Nat.le_of_ble_eq_true rfl) (Val.pickAnd rfl rfl rfl) ?_
      | refine TL.val rfl rfl (Nat.le_of_ble_eq_true rfl) (Val.pickOr rfl rfl rfl) ?_
      | refine TL.val rfl rfl (Nat.le_of_ble_eq_true rfl) (Val.pick rfl rfl rfl) ?_
    refine TL.val rfl rfl (Nat.le_of_ble_eq_true rfl) (Val.move rfl) ?_
    refine TL.valYes rfl rfl (Nat.le_of_ble_eq_true rfl) rfl (Nat.le_of_ble_eq_true rfl) rfl (Val.fieldAddr rfl fl61_4 sz2 rfl) ?_
    first
      | refine TL.valYes rfl rfl (Nat.le_of_ble_eq_true rfl) rfl (Nat.le_of_ble_eq_true rfl) rfl (Val.load 0 rfl ag2 rfl rfl) ?_
      | refine TL.valYes rfl rfl (Nat.le_of_ble_eq_true rfl) rfl (Nat.le_of_ble_eq_true rfl) rfl (Val.load 1 rfl ag2 rfl rfl) ?_
      | refine TL.valYes rfl rfl (Nat.le_of_ble_eq_true rfl) rfl (Nat.le_of_ble_eq_true rfl) rfl (Val.load 2 rfl ag2 rfl rfl) ?_
      | refine TL.valYes rfl rfl (Nat.le_of_ble_eq_true rfl) rfl (Nat.le_of_ble_eq_true rfl) rfl (Val.load 3 rfl ag2 rfl rfl) ?_
      | refine TL.valYes rfl rfl (Nat.le_of_ble_eq_true rfl) rfl (Nat.le_of_ble_eq_true rfl) rfl (Val.load 4 rfl ag2 rfl rfl) ?_
      | refine TL.valYes rfl rfl (Nat.le_of_ble_eq_true rfl) rfl (Nat.le_of_ble_eq_true rfl) rfl (Val.load 5 rfl ag2 rfl rfl) ?_
    refine TL.doesYes (some 29) rfl rfl rfl (Nat.le_of_ble_eq_true rfl) rfl rfl (Does.callF go84 rfl (in_true _ _ _ _ ⟨by omega, by omega⟩)) ?_
    rintro _ _ ⟨rfl, rfl⟩
    first
      | refine TL.val rfl rfl (Nat.le_of_ble_eq_true rfl) (Val.pickAnd rfl rfl rfl) ?_
      | refine TL.val rfl rfl (Nat.le_of_ble_eq_true rfl) (Val.pickOr rfl rfl rfl) ?_
      | refine TL.val rfl rfl (Nat.le_of_ble_eq_true rfl) (Val.pick rfl rfl rfl) ?_
    refine TL.val rfl rfl (Nat.le_of_ble_eq_true rfl) (Val.move rfl) ?_
    refine TL.valYes rfl rfl (Nat.le_of_ble_eq_true rfl) rfl (Nat.le_of_ble_eq_true rfl) rfl (Val.fieldAddr rfl fl61_6 sz3 rfl) ?_
    first
      | refine TL.valYes rfl rfl (Nat.le_of_ble_eq_true rfl) rfl (Nat.le_of_ble_eq_true rfl) rfl (Val.load 0 rfl ag3 rfl rfl) ?_
      | refine TL.valYes rfl rfl (Nat.le_of_ble_eq_true rfl) rfl (Nat.le_of_ble_eq_true rfl) rfl (Val.load 1 rfl ag3 rfl rfl) ?_
      | refine TL.valYes rfl rfl (Nat.le_of_ble_eq_true rfl) rfl (Nat.le_of_ble_eq_true rfl) rfl (Val.load 2 rfl ag3 rfl rfl) ?_
      | refine TL.valYes rfl rfl (Nat.le_of_ble_eq_true rfl) rfl (Nat.le_of_ble_eq_true rfl) rfl (Val.load 3 rfl ag3 rfl rfl) ?_
      | refine TL.valYes rfl rfl (Nat.le_of_ble_eq_true rfl) rfl (Nat.le_of_ble_eq_true rfl) rfl (Val.load 4 rfl ag3 rfl rfl) ?_
      | refine TL.valYes rfl rfl (Nat.le_of_ble_eq_true rfl) rfl (Nat.le_of_ble_eq_true rfl) rfl (Val.load 5 rfl ag3 rfl rfl) ?_
    refine TL.valYes rfl rfl (Nat.le_of_ble_eq_true rfl) rfl (Nat.le_of_ble_eq_true rfl) rfl (Val.move rfl) ?_
    refine TL.doesYes (some 35) rfl rfl rfl (Nat.le_of_ble_eq_true rfl) rfl rfl (Does.callF go84 rfl (in_true _ _ _ _ ⟨by omega, by omega⟩)) ?_
    rintro _ _ ⟨rfl, rfl⟩
    first
      | refine TL.val rfl rfl (Nat.le_of_ble_eq_true rfl) (Val.pickAnd rfl rfl rfl) ?_
      | refine TL.val rfl rfl (Nat.le_of_ble_eq_true rfl) (Val.pickOr rfl rfl rfl) ?_
      | refine TL.val rfl rfl (Nat.le_of_ble_eq_true rfl) (Val.pick rfl rfl rfl) ?_
    refine TL.val rfl rfl (Nat.le_of_ble_eq_true rfl) (Val.move rfl) ?_
    refine TL.valYes rfl rfl (Nat.le_of_ble_eq_true rfl) rfl (Nat.le_of_ble_eq_true rfl) rfl (Val.fieldAddr rfl fl61_5 sz2 rfl) ?_
    first
      | refine TL.valYes rfl rfl (Nat.le_of_ble_eq_true rfl) rfl (Nat.le_of_ble_eq_true rfl) rfl (Val.load 0 rfl ag2 rfl rfl) ?_
      | refine TL.valYes rfl rfl (Nat.le_of_ble_eq_true rfl) rfl (Nat.le_of_ble_eq_true rfl) rfl (Val.load 1 rfl ag2 rfl rfl) ?_
      | refine TL.valYes rfl rfl (Nat.le_of_ble_eq_true rfl) rfl (Nat.le_of_ble_eq_true rfl) rfl (Val.load 2 rfl ag2 rfl rfl) ?_
      | refine TL.valYes rfl rfl (Nat.le_of_ble_eq_true rfl) rfl (Nat.le_of_ble_eq_true rfl) rfl (Val.load 3 rfl ag2 rfl rfl) ?_
      | refine TL.valYes rfl rfl (Nat.le_of_ble_eq_true rfl) rfl (Nat.le_of_ble_eq_true rfl) rfl (Val.load 4 rfl ag2 rfl rfl) ?_
      | refine TL.valYes rfl rfl (Nat.le_of_ble_eq_true rfl) rfl (Nat.le_of_ble_eq_true rfl) rfl (Val.load 5 rfl ag2 rfl rfl) ?_
    refine TL.valYes rfl rfl (Nat.le_of_ble_eq_true rfl) rfl (Nat.le_of_ble_eq_true rfl) rfl (Val.move rfl) ?_
    refine TL.doesYes (some 41) rfl rfl rfl (Nat.le_of_ble_eq_true rfl) rfl rfl (Does.callF go84 rfl (in_true _ _ _ _ ⟨by omega, by omega⟩)) ?_
    rintro _ _ ⟨rfl, rfl⟩
    first
      | refine TL.val rfl rfl (Nat.le_of_ble_eq_true rfl) (Val.pickAnd rfl rfl rfl) ?_
      | refine TL.val rfl rfl (Nat.le_of_ble_eq_true rfl) (Val.pickOr rfl rfl rfl) ?_
      | refine TL.val rfl rfl (Nat.le_of_ble_eq_true rfl) (Val.pick rfl rfl rfl) ?_
    refine TL.val rfl rfl (Nat.le_of_ble_eq_true rfl) (Val.assign rfl) ?_
    refine TL.nil ?_
    refine AtX.then ?_
    refine TC.env (E' := [(2, _)]) (Sub.cons rfl (Sub.nil _)) ?_
    refine TC.ret1 (fn := Try.f47) (fun _ _ h => h) rfl (RV.tmp rfl) (M' := M) (by repeat (first | exact ro_refl | exact ro_pre | refine ro_tail ?_ | refine ro_app ?_)) ?_
    exact ⟨rfl, rfl⟩

/-- quorumite/wire.Put -/
theorem wPut_fn (m : Ms) (M : Hp) (hm : mayM m = true) : FnC Try.prog 38 #[.agg #[.int .i64 m.kind, .int .i64 m.who, .int .i64 m.gen, .int .i64 m.seq, .int .i64 m.epoch, .int .i64 m.value, .int .i64 m.metric]] M (fun v M' => ∃ b c sp, v = .tuple #[.slice (some ⟨b, 0, none⟩) 32 c, .int .i64 0] ∧ 32 + sp.length = c ∧ M' = (b, row 5 (bv (putM m) ++ sp)) :: M) := by
  refine FnC.intro Try.func38 rfl 45 rfl (by simp) (fun z => ?_)
  refine TC.env (E' := [(0, _)]) (Sub.cons rfl (Sub.nil _)) ?_
  refine TC.seq ?_
  refine TC.region ?_
  refine TL.does (some 1) rfl rfl rfl (Does.box rfl rfl) ?_
  rintro _ _ ⟨b1, rfl, rfl⟩
  refine TL.val rfl rfl (Nat.le_of_ble_eq_true rfl) (Val.assign rfl) ?_
  refine TL.val rfl rfl (Nat.le_of_ble_eq_true rfl) (Val.assign rfl) ?_
  refine TL.nil ?_
  refine AtX.then ?_
  refine TC.env (E' := [(1, _), (2, _), (3, _)]) (Sub.cons rfl (Sub.cons rfl (Sub.cons rfl (Sub.nil _)))) ?_
  refine TC.seq ?_
  refine TC.seq ?_
  refine TC.region ?_
  first
    | refine TL.val rfl rfl (Nat.le_of_ble_eq_true rfl) (Val.loadAgg 0 rfl ag61 sz61 rfl rfl rfl) ?_
    | refine TL.val rfl rfl (Nat.le_of_ble_eq_true rfl) (Val.loadAgg 1 rfl ag61 sz61 rfl rfl rfl) ?_
    | refine TL.val rfl rfl (Nat.le_of_ble_eq_true rfl) (Val.loadAgg 2 rfl ag61 sz61 rfl rfl rfl) ?_
    | refine TL.val rfl rfl (Nat.le_of_ble_eq_true rfl) (Val.loadAgg 3 rfl ag61 sz61 rfl rfl rfl) ?_
    | refine TL.val rfl rfl (Nat.le_of_ble_eq_true rfl) (Val.loadAgg 4 rfl ag61 sz61 rfl rfl rfl) ?_
    | refine TL.val rfl rfl (Nat.le_of_ble_eq_true rfl) (Val.loadAgg 5 rfl ag61 sz61 rfl rfl rfl) ?_
  refine TL.does (some 8) rfl rfl rfl (Does.callF go47 rfl (May_true m _ hm)) ?_
  rintro _ _ ⟨rfl, rfl⟩
  refine TL.val rfl rfl (Nat.le_of_ble_eq_true rfl) (Val.not rfl) ?_
  refine TL.nil ?_
  refine AtX.then ?_
  refine TC.env (E' := [(1, _), (2, _), (3, _), (9, _)]) (Sub.cons rfl (Sub.cons rfl (Sub.cons rfl (Sub.cons rfl (Sub.nil _))))) ?_
  first | refine TC.condP rfl (fun c1 => ?_) (fun c1 => ?_) | refine TC.condN rfl (fun c1 => ?_) (fun c1 => ?_) | refine TC.condB rfl (fun c1 => ?_) (fun c1 => ?_) | refine TC.cond rfl (fun c1 => ?_) (fun c1 => ?_)
  · skip
    cases c1
  · skip
    refine TC.env (E' := [(1, _), (2, _), (3, _)]) (Sub.cons rfl (Sub.cons rfl (Sub.cons rfl (Sub.nil _)))) ?_
    refine TC.skip ?_
    refine AtX.then ?_
    refine TC.env (E' := [(1, _), (2, _), (3, _)]) (Sub.cons rfl (Sub.cons rfl (Sub.cons rfl (Sub.nil _)))) ?_
    refine TC.seq ?_
    refine TC.drawL ((b1, .cells #[.int .i64 m.kind, .int .i64 m.who, .int .i64 m.gen, .int .i64 m.seq, .int .i64 m.epoch, .int .i64 m.value, .int .i64 m.metric] 61 (0, 0)) :: M) mixed 17 ?_
    refine TA.tk 0 1 rfl rfl rfl (Val.fieldAddr rfl fl61_0 sz3 rfl) ?_
    first
      | refine TA.tk 1 3 rfl rfl rfl (Val.load 0 rfl ag3 rfl rfl) ?_
      | refine TA.tk 1 3 rfl rfl rfl (Val.load 1 rfl ag3 rfl rfl) ?_
      | refine TA.tk 1 3 rfl rfl rfl (Val.load 2 rfl ag3 rfl rfl) ?_
      | refine TA.tk 1 3 rfl rfl rfl (Val.load 3 rfl ag3 rfl rfl) ?_
      | refine TA.tk 1 3 rfl rfl rfl (Val.load 4 rfl ag3 rfl rfl) ?_
      | refine TA.tk 1 3 rfl rfl rfl (Val.load 5 rfl ag3 rfl rfl) ?_
    refine TA.tk 2 7 rfl rfl rfl (Val.convI rfl iu3 in5 w_b8) ?_
    refine TA.tk 3 15 rfl rfl rfl (Val.fieldAddr rfl fl61_1 sz3 rfl) ?_
    first
      | refine TA.tk 4 31 rfl rfl rfl (Val.load 0 rfl ag3 rfl rfl) ?_
      | refine TA.tk 4 31 rfl rfl rfl (Val.load 1 rfl ag3 rfl rfl) ?_
      | refine TA.tk 4 31 rfl rfl rfl (Val.load 2 rfl ag3 rfl rfl) ?_
      | refine TA.tk 4 31 rfl rfl rfl (Val.load 3 rfl ag3 rfl rfl) ?_
      | refine TA.tk 4 31 rfl rfl rfl (Val.load 4 rfl ag3 rfl rfl) ?_
      | refine TA.tk 4 31 rfl rfl rfl (Val.load 5 rfl ag3 rfl rfl) ?_
    refine TA.tk 5 63 rfl rfl rfl (Val.convI rfl iu3 in5 w_b8) ?_
    refine TA.tk 6 127 rfl rfl rfl (Val.fieldAddr rfl fl61_6 sz3 rfl) ?_
    first
      | refine TA.tk 7 255 rfl rfl rfl (Val.load 0 rfl ag3 rfl rfl) ?_
      | refine TA.tk 7 255 rfl rfl rfl (Val.load 1 rfl ag3 rfl rfl) ?_
      | refine TA.tk 7 255 rfl rfl rfl (Val.load 2 rfl ag3 rfl rfl) ?_
      | refine TA.tk 7 255 rfl rfl rfl (Val.load 3 rfl ag3 rfl rfl) ?_
      | refine TA.tk 7 255 rfl rfl rfl (Val.load 4 rfl ag3 rfl rfl) ?_
      | refine TA.tk 7 255 rfl rfl rfl (Val.load 5 rfl ag3 rfl rfl) ?_
    refine TA.tk 8 511 rfl rfl rfl (Val.convI rfl iu3 in5 w_b8) ?_
    refine TA.tk 10 1535 rfl rfl rfl (Val.fieldAddr rfl fl61_2 sz3 rfl) ?_
    first
      | refine TA.tk 11 3583 rfl rfl rfl (Val.load 0 rfl ag3 rfl rfl) ?_
      | refine TA.tk 11 3583 rfl rfl rfl (Val.load 1 rfl ag3 rfl rfl) ?_
      | refine TA.tk 11 3583 rfl rfl rfl (Val.load 2 rfl ag3 rfl rfl) ?_
      | refine TA.tk 11 3583 rfl rfl rfl (Val.load 3 rfl ag3 rfl rfl) ?_
      | refine TA.tk 11 3583 rfl rfl rfl (Val.load 4 rfl ag3 rfl rfl) ?_
      | refine TA.tk 11 3583 rfl rfl rfl (Val.load 5 rfl ag3 rfl rfl) ?_
    refine TA.tk 12 7679 rfl rfl rfl (Val.convI rfl iu3 in24 rfl) ?_
    refine TA.two 9 13 (by kernel_rfl) ?_ ?_
    · skip
      refine TO.dz 8191 (some 19) rfl rfl rfl rfl (Does.buildSlice sl37 sz5 ze5 (by decide) (by decide) rfl rfl rfl) ?_
      rintro _ _ ⟨bH, rfl, rfl⟩
      refine roK ?_
      refine TA.one 13 (by kernel_rfl) ?_
      refine TO.dz 16383 (some 23) rfl rfl rfl rfl (Does.callF go78 rfl (sipPut_fn _ _)) ?_
      rintro _ _ ⟨bP, cP, spP, rfl, hcP, rfl⟩
      refine roK ?_
      refine TA.tk 14 32767 rfl rfl rfl (Val.sliceTo (j := 4) rfl sl37 sz5 rfl rfl (by omega)) ?_
      refine TA.one 15 (by kernel_rfl) ?_
      first
        | refine TO.dz 65535 (some 25) rfl rfl rfl rfl (Does.appendS (xs := bv [1, Go.X.b8 m.kind, Go.X.b8 m.who, Go.X.b8 m.metric]) (ys := bv ((put8 (IntKind.u64.wrap m.gen)).take 4)) (some (bH, 4, [])) ((b1, .cells #[.int .i64 m.kind, .int .i64 m.who, .int .i64 m.gen, .int .i64 m.seq, .int .i64 m.epoch, .int .i64 m.value, .int .i64 m.metric] 61 (0, 0)) :: M) (fun w h => ro_del 0 rfl w h) rfl rfl sl37 sz5 by5 ze5 rfl ⟨rfl, rfl⟩ (srcB us37 (rd_rowB (i := 0) rfl 4 (by simp))) (by simp) (bv_one _) (by omega) (by omega)) ?_
        | refine TO.dz 65535 (some 25) rfl rfl rfl rfl (Does.appendS (xs := bv [1, Go.X.b8 m.kind, Go.X.b8 m.who, Go.X.b8 m.metric]) (ys := bv ((put8 (IntKind.u64.wrap m.gen)).take 4)) (some (bH, 4, [])) ((b1, .cells #[.int .i64 m.kind, .int .i64 m.who, .int .i64 m.gen, .int .i64 m.seq, .int .i64 m.epoch, .int .i64 m.value, .int .i64 m.metric] 61 (0, 0)) :: M) (fun w h => ro_del 1 rfl w h) rfl rfl sl37 sz5 by5 ze5 rfl ⟨rfl, rfl⟩ (srcB us37 (rd_rowB (i := 1) rfl 4 (by simp))) (by simp) (bv_one _) (by omega) (by omega)) ?_
      rintro _ _ ⟨σ, rfl, hok, rfl⟩
      rw [← bv_append, show [1, Go.X.b8 m.kind, Go.X.b8 m.who, Go.X.b8 m.metric] ++ ((put8 (IntKind.u64.wrap m.gen)).take 4) = putTo m 0 from (putTo_0 m).symm] at hok ⊢
      refine roK ?_
      refine TA.tk 16 131071 rfl rfl rfl (Val.assign rfl) ?_
      refine TA.done (by kernel_rfl) ?_
      refine AtX.then ?_
      refine TC.env (E' := [(1, _), (2, _), (3, _), (4, _)]) (Sub.cons rfl (Sub.cons rfl (Sub.cons rfl (Sub.cons rfl (Sub.nil _))))) ?_
      refine TC.seq ?_
      refine TC.seq ?_
      refine TC.heap (M' := (b1, .cells #[.int .i64 m.kind, .int .i64 m.who, .int .i64 m.gen, .int .i64 m.seq, .int .i64 m.epoch, .int .i64 m.value, .int .i64 m.metric] 61 (0, 0)) :: (slH σ 5 (bv (putTo m 0)) ++ M)) ro_mid ?_
      refine TC.region ?_
      refine TL.val rfl rfl (Nat.le_of_ble_eq_true rfl) (Val.fieldAddr rfl fl61_3 sz2 rfl) ?_
      first
        | refine TL.val rfl rfl (Nat.le_of_ble_eq_true rfl) (Val.load 0 rfl ag2 rfl rfl) ?_
        | refine TL.val rfl rfl (Nat.le_of_ble_eq_true rfl) (Val.load 1 rfl ag2 rfl rfl) ?_
        | refine TL.val rfl rfl (Nat.le_of_ble_eq_true rfl) (Val.load 2 rfl ag2 rfl rfl) ?_
        | refine TL.val rfl rfl (Nat.le_of_ble_eq_true rfl) (Val.load 3 rfl ag2 rfl rfl) ?_
        | refine TL.val rfl rfl (Nat.le_of_ble_eq_true rfl) (Val.load 4 rfl ag2 rfl rfl) ?_
        | refine TL.val rfl rfl (Nat.le_of_ble_eq_true rfl) (Val.load 5 rfl ag2 rfl rfl) ?_
      refine TL.val rfl rfl (Nat.le_of_ble_eq_true rfl) (Val.fieldAddr rfl fl61_4 sz2 rfl) ?_
      first
        | refine TL.val rfl rfl (Nat.le_of_ble_eq_true rfl) (Val.load 0 rfl ag2 rfl rfl) ?_
        | refine TL.val rfl rfl (Nat.le_of_ble_eq_true rfl) (Val.load 1 rfl ag2 rfl rfl) ?_
        | refine TL.val rfl rfl (Nat.le_of_ble_eq_true rfl) (Val.load 2 rfl ag2 rfl rfl) ?_
        | refine TL.val rfl rfl (Nat.le_of_ble_eq_true rfl) (Val.load 3 rfl ag2 rfl rfl) ?_
        | refine TL.val rfl rfl (Nat.le_of_ble_eq_true rfl) (Val.load 4 rfl ag2 rfl rfl) ?_
        | refine TL.val rfl rfl (Nat.le_of_ble_eq_true rfl) (Val.load 5 rfl ag2 rfl rfl) ?_
      refine TL.val rfl rfl (Nat.le_of_ble_eq_true rfl) (Val.fieldAddr rfl fl61_5 sz2 rfl) ?_
      first
        | refine TL.val rfl rfl (Nat.le_of_ble_eq_true rfl) (Val.load 0 rfl ag2 rfl rfl) ?_
        | refine TL.val rfl rfl (Nat.le_of_ble_eq_true rfl) (Val.load 1 rfl ag2 rfl rfl) ?_
        | refine TL.val rfl rfl (Nat.le_of_ble_eq_true rfl) (Val.load 2 rfl ag2 rfl rfl) ?_
        | refine TL.val rfl rfl (Nat.le_of_ble_eq_true rfl) (Val.load 3 rfl ag2 rfl rfl) ?_
        | refine TL.val rfl rfl (Nat.le_of_ble_eq_true rfl) (Val.load 4 rfl ag2 rfl rfl) ?_
        | refine TL.val rfl rfl (Nat.le_of_ble_eq_true rfl) (Val.load 5 rfl ag2 rfl rfl) ?_
      refine TL.does (some 32) rfl rfl rfl (Does.buildSlice sl36 sz2 ze2 (by decide) (by decide) rfl rfl rfl) ?_
      rintro _ _ ⟨b4, rfl, rfl⟩
      refine TL.val rfl rfl (Nat.le_of_ble_eq_true rfl) (Val.lenSl rfl rfl sl36) ?_
      refine TL.val rfl rfl (Nat.le_of_ble_eq_true rfl) (Val.move rfl) ?_
      refine TL.nil ?_
      refine AtX.then ?_
      refine TC.env (E' := [(2, _), (3, _), (4, _), (32, _), (33, _), (34, _)]) (Sub.cons rfl (Sub.cons rfl (Sub.cons rfl (Sub.cons rfl (Sub.cons rfl (Sub.cons rfl (Sub.nil _))))))) ?_
      refine TC.block ?_
      refine TC.loop (ι := (Nat × Sl)) (fun i => [(4, .slice (slA i.2) (putTo m i.1).length (slC i.2)), (32, .slice (some ⟨b4, 0, none⟩) 3 3), (33, .int .i64 3), (34, .int .i64 (i.1 : Nat))]) (fun i => slH i.2 5 (bv (putTo m i.1)) ++ ((b4, .cells #[.int .i64 m.seq, .int .i64 m.epoch, .int .i64 m.value] 2 (0, 0)) :: (b1, .cells #[.int .i64 m.kind, .int .i64 m.who, .int .i64 m.gen, .int .i64 m.seq, .int .i64 m.epoch, .int .i64 m.value, .int .i64 m.metric] 61 (0, 0)) :: M)) (fun i => i.1 ≤ 3 ∧ slOk i.2 1 (putTo m i.1).length (bv (putTo m i.1))) (fun i => 3 - i.1) (0, σ) ?_ (Sub.cons rfl (Sub.cons rfl (Sub.cons rfl (Sub.cons rfl (Sub.nil _))))) ro_dim2 ?_
      · exact ⟨by omega, by rw [putTo_len m (by omega)]; exact hok⟩
      rintro ⟨k, σ⟩ ⟨hk, hok⟩
      dsimp only at hk hok ⊢
      refine TC.seq ?_
      refine TC.region ?_
      refine TL.val rfl rfl (Nat.le_of_ble_eq_true rfl) (Val.lss rfl rfl) ?_
      refine TL.nil ?_
      refine AtX.then ?_
      refine TC.seq ?_
      first | refine TC.condP rfl (fun c2 => ?_) (fun c2 => ?_) | refine TC.condN rfl (fun c2 => ?_) (fun c2 => ?_) | refine TC.condB rfl (fun c2 => ?_) (fun c2 => ?_) | refine TC.cond rfl (fun c2 => ?_) (fun c2 => ?_)
      · skip
        refine TC.skip ?_
        refine AtX.then ?_
        refine TC.seq ?_
        refine TC.block ?_
        refine TC.seq ?_
        have hlt : k < 3 := by omega
        obtain ⟨x, hx⟩ : ∃ x, (tailB m)[k]? = some x := ⟨_, List.getElem?_eq_getElem (by show k < 3; omega)⟩
        have hpl := putTo_len m hk
        refine TC.region ?_
        refine TL.val rfl rfl (Nat.le_of_ble_eq_true rfl) (Val.indexAddr (i := k) (r := k) rfl rfl sl36 sz2 rfl (by omega) (by omega)) ?_
        refine TL.val rfl rfl (Nat.le_of_ble_eq_true rfl) (Val.loadRd (o := 0) (j := k) rfl ag2 (Rd.app _ (Rd.get (M := (b4, .cells #[.int .i64 m.seq, .int .i64 m.epoch, .int .i64 m.value] 2 (0, 0)) :: (b1, .cells #[.int .i64 m.kind, .int .i64 m.who, .int .i64 m.gen, .int .i64 m.seq, .int .i64 m.epoch, .int .i64 m.value, .int .i64 m.metric] 61 (0, 0)) :: M) (i := 0) (ys := (tailB m).map (Value.int .i64)) rfl rfl)) (by omega) (map_get hx)) ?_
        refine TL.val rfl rfl (Nat.le_of_ble_eq_true rfl) (Val.assign rfl) ?_
        refine TL.nil ?_
        refine AtX.then ?_
        refine TC.region ?_
        refine TL.val rfl rfl (Nat.le_of_ble_eq_true rfl) (Val.move rfl) ?_
        refine TL.val rfl rfl (Nat.le_of_ble_eq_true rfl) (Val.move rfl) ?_
        refine TL.val rfl rfl (Nat.le_of_ble_eq_true rfl) (Val.convI rfl iu2 in24 rfl) ?_
        refine TL.does (some 41) rfl rfl rfl (Does.callF go78 rfl (sipPut_fn _ _)) ?_
        rintro _ _ ⟨bQ, cQ, spQ, rfl, hcQ, rfl⟩
        refine TL.does (some 42) rfl rfl rfl (Does.appendS (xs := bv (putTo m k)) (ys := bv (put8 (IntKind.u64.wrap x))) σ ((b4, .cells #[.int .i64 m.seq, .int .i64 m.epoch, .int .i64 m.value] 2 (0, 0)) :: (b1, .cells #[.int .i64 m.kind, .int .i64 m.who, .int .i64 m.gen, .int .i64 m.seq, .int .i64 m.epoch, .int .i64 m.value, .int .i64 m.metric] 61 (0, 0)) :: M) (ro_tail ro_refl) rfl rfl sl37 sz5 by5 ze5 rfl hok (srcB us37 (rd_all (i := 0) rfl)) (by simp) (bv_one _) (by omega) (by omega)) ?_
        rintro _ _ ⟨σ1, rfl, hok1, rfl⟩
        refine TL.val rfl rfl (Nat.le_of_ble_eq_true rfl) (Val.assign rfl) ?_
        refine TL.nil ?_
        refine AtX.blk ?_
        refine AtX.then ?_
        refine TC.region ?_
        first
          | refine TL.val rfl rfl (Nat.le_of_ble_eq_true rfl) (Val.add rfl rfl (w_i64 (by omega) (by omega))) ?_
          | refine TL.val rfl rfl (Nat.le_of_ble_eq_true rfl) (Val.add rfl rfl rfl) ?_
        refine TL.val rfl rfl (Nat.le_of_ble_eq_true rfl) (Val.move rfl) ?_
        refine TL.nil ?_
        refine AtX.round (i := (k, σ)) (k + 1, σ1) ?_ ?_ (Sub.cons (by rw [putTo_S hx, List.length_append, put8_len]; rfl) (Sub.cons rfl (Sub.cons rfl (Sub.cons rfl (Sub.nil _))))) (fun w h => by dsimp only; rw [putTo_S hx, bv_append]; exact h)
        · exact ⟨by omega, by dsimp only; rw [putTo_S hx, List.length_append, bv_append, put8_len]; exact hok1⟩
        · show 3 - (k + 1) < 3 - k; omega
      · skip
        refine TC.exit ?_
        refine AtX.seqX ?_
        refine AtX.seqX ?_
        refine AtX.hit ?_
        refine AtX.then ?_
        refine TC.env (E' := [(4, _)]) (Sub.cons rfl (Sub.nil _)) ?_
        refine TC.seq ?_
        have h3 : k = 3 := by omega
        subst h3
        rw [putTo_3] at hok ⊢
        rw [putM_len] at hok ⊢
        obtain ⟨b, c, sp, rfl, hc⟩ := hok.some (by omega)
        refine TC.region ?_
        refine TL.val rfl rfl (Nat.le_of_ble_eq_true rfl) (Val.move rfl) ?_
        refine TL.val rfl rfl (Nat.le_of_ble_eq_true rfl) (Val.assign rfl) ?_
        refine TL.val rfl rfl (Nat.le_of_ble_eq_true rfl) (Val.assign rfl) ?_
        refine TL.nil ?_
        refine AtX.then ?_
        refine TC.env (E' := [(2, _), (3, _)]) (Sub.cons rfl (Sub.cons rfl (Sub.nil _))) ?_
        refine TC.ret2 (fn := Try.f38) (fun _ _ h => h) rfl (RV.tmp rfl) (RV.tmp rfl) (M' := (b, row 5 (bv (putM m) ++ sp)) :: M) (fun w h => ro_del 1 rfl w (ro_del 1 rfl w h)) ?_
        exact ⟨b, c, sp, rfl, by simpa using hc, rfl⟩
    · skip
      refine TO.dz 15871 (some 23) rfl rfl rfl rfl (Does.callF go78 rfl (sipPut_fn _ _)) ?_
      rintro _ _ ⟨bP, cP, spP, rfl, hcP, rfl⟩
      refine roK ?_
      refine TA.tk 14 32255 rfl rfl rfl (Val.sliceTo (j := 4) rfl sl37 sz5 rfl rfl (by omega)) ?_
      refine TA.one 9 (by kernel_rfl) ?_
      refine TO.dz 32767 (some 19) rfl rfl rfl rfl (Does.buildSlice sl37 sz5 ze5 (by decide) (by decide) rfl rfl rfl) ?_
      rintro _ _ ⟨bH, rfl, rfl⟩
      refine roK ?_
      refine TA.one 15 (by kernel_rfl) ?_
      first
        | refine TO.dz 65535 (some 25) rfl rfl rfl rfl (Does.appendS (xs := bv [1, Go.X.b8 m.kind, Go.X.b8 m.who, Go.X.b8 m.metric]) (ys := bv ((put8 (IntKind.u64.wrap m.gen)).take 4)) (some (bH, 4, [])) ((b1, .cells #[.int .i64 m.kind, .int .i64 m.who, .int .i64 m.gen, .int .i64 m.seq, .int .i64 m.epoch, .int .i64 m.value, .int .i64 m.metric] 61 (0, 0)) :: M) (fun w h => ro_del 0 rfl w h) rfl rfl sl37 sz5 by5 ze5 rfl ⟨rfl, rfl⟩ (srcB us37 (rd_rowB (i := 0) rfl 4 (by simp))) (by simp) (bv_one _) (by omega) (by omega)) ?_
        | refine TO.dz 65535 (some 25) rfl rfl rfl rfl (Does.appendS (xs := bv [1, Go.X.b8 m.kind, Go.X.b8 m.who, Go.X.b8 m.metric]) (ys := bv ((put8 (IntKind.u64.wrap m.gen)).take 4)) (some (bH, 4, [])) ((b1, .cells #[.int .i64 m.kind, .int .i64 m.who, .int .i64 m.gen, .int .i64 m.seq, .int .i64 m.epoch, .int .i64 m.value, .int .i64 m.metric] 61 (0, 0)) :: M) (fun w h => ro_del 1 rfl w h) rfl rfl sl37 sz5 by5 ze5 rfl ⟨rfl, rfl⟩ (srcB us37 (rd_rowB (i := 1) rfl 4 (by simp))) (by simp) (bv_one _) (by omega) (by omega)) ?_
      rintro _ _ ⟨σ, rfl, hok, rfl⟩
      rw [← bv_append, show [1, Go.X.b8 m.kind, Go.X.b8 m.who, Go.X.b8 m.metric] ++ ((put8 (IntKind.u64.wrap m.gen)).take 4) = putTo m 0 from (putTo_0 m).symm] at hok ⊢
      refine roK ?_
      refine TA.tk 16 131071 rfl rfl rfl (Val.assign rfl) ?_
      refine TA.done (by kernel_rfl) ?_
      refine AtX.then ?_
      refine TC.env (E' := [(1, _), (2, _), (3, _), (4, _)]) (Sub.cons rfl (Sub.cons rfl (Sub.cons rfl (Sub.cons rfl (Sub.nil _))))) ?_
      refine TC.seq ?_
      refine TC.seq ?_
      refine TC.heap (M' := (b1, .cells #[.int .i64 m.kind, .int .i64 m.who, .int .i64 m.gen, .int .i64 m.seq, .int .i64 m.epoch, .int .i64 m.value, .int .i64 m.metric] 61 (0, 0)) :: (slH σ 5 (bv (putTo m 0)) ++ M)) ro_mid ?_
      refine TC.region ?_
      refine TL.val rfl rfl (Nat.le_of_ble_eq_true rfl) (Val.fieldAddr rfl fl61_3 sz2 rfl) ?_
      first
        | refine TL.val rfl rfl (Nat.le_of_ble_eq_true rfl) (Val.load 0 rfl ag2 rfl rfl) ?_
        | refine TL.val rfl rfl (Nat.le_of_ble_eq_true rfl) (Val.load 1 rfl ag2 rfl rfl) ?_
        | refine TL.val rfl rfl (Nat.le_of_ble_eq_true rfl) (Val.load 2 rfl ag2 rfl rfl) ?_
        | refine TL.val rfl rfl (Nat.le_of_ble_eq_true rfl) (Val.load 3 rfl ag2 rfl rfl) ?_
        | refine TL.val rfl rfl (Nat.le_of_ble_eq_true rfl) (Val.load 4 rfl ag2 rfl rfl) ?_
        | refine TL.val rfl rfl (Nat.le_of_ble_eq_true rfl) (Val.load 5 rfl ag2 rfl rfl) ?_
      refine TL.val rfl rfl (Nat.le_of_ble_eq_true rfl) (Val.fieldAddr rfl fl61_4 sz2 rfl) ?_
      first
        | refine TL.val rfl rfl (Nat.le_of_ble_eq_true rfl) (Val.load 0 rfl ag2 rfl rfl) ?_
        | refine TL.val rfl rfl (Nat.le_of_ble_eq_true rfl) (Val.load 1 rfl ag2 rfl rfl) ?_
        | refine TL.val rfl rfl (Nat.le_of_ble_eq_true rfl) (Val.load 2 rfl ag2 rfl rfl) ?_
        | refine TL.val rfl rfl (Nat.le_of_ble_eq_true rfl) (Val.load 3 rfl ag2 rfl rfl) ?_
        | refine TL.val rfl rfl (Nat.le_of_ble_eq_true rfl) (Val.load 4 rfl ag2 rfl rfl) ?_
        | refine TL.val rfl rfl (Nat.le_of_ble_eq_true rfl) (Val.load 5 rfl ag2 rfl rfl) ?_
      refine TL.val rfl rfl (Nat.le_of_ble_eq_true rfl) (Val.fieldAddr rfl fl61_5 sz2 rfl) ?_
      first
        | refine TL.val rfl rfl (Nat.le_of_ble_eq_true rfl) (Val.load 0 rfl ag2 rfl rfl) ?_
        | refine TL.val rfl rfl (Nat.le_of_ble_eq_true rfl) (Val.load 1 rfl ag2 rfl rfl) ?_
        | refine TL.val rfl rfl (Nat.le_of_ble_eq_true rfl) (Val.load 2 rfl ag2 rfl rfl) ?_
        | refine TL.val rfl rfl (Nat.le_of_ble_eq_true rfl) (Val.load 3 rfl ag2 rfl rfl) ?_
        | refine TL.val rfl rfl (Nat.le_of_ble_eq_true rfl) (Val.load 4 rfl ag2 rfl rfl) ?_
        | refine TL.val rfl rfl (Nat.le_of_ble_eq_true rfl) (Val.load 5 rfl ag2 rfl rfl) ?_
      refine TL.does (some 32) rfl rfl rfl (Does.buildSlice sl36 sz2 ze2 (by decide) (by decide) rfl rfl rfl) ?_
      rintro _ _ ⟨b4, rfl, rfl⟩
      refine TL.val rfl rfl (Nat.le_of_ble_eq_true rfl) (Val.lenSl rfl rfl sl36) ?_
      refine TL.val rfl rfl (Nat.le_of_ble_eq_true rfl) (Val.move rfl) ?_
      refine TL.nil ?_
      refine AtX.then ?_
      refine TC.env (E' := [(2, _), (3, _), (4, _), (32, _), (33, _), (34, _)]) (Sub.cons rfl (Sub.cons rfl (Sub.cons rfl (Sub.cons rfl (Sub.cons rfl (Sub.cons rfl (Sub.nil _))))))) ?_
      refine TC.block ?_
      refine TC.loop (ι := (Nat × Sl)) (fun i => [(4, .slice (slA i.2) (putTo m i.1).length (slC i.2)), (32, .slice (some ⟨b4, 0, none⟩) 3 3), (33, .int .i64 3), (34, .int .i64 (i.1 : Nat))]) (fun i => slH i.2 5 (bv (putTo m i.1)) ++ ((b4, .cells #[.int .i64 m.seq, .int .i64 m.epoch, .int .i64 m.value] 2 (0, 0)) :: (b1, .cells #[.int .i64 m.kind, .int .i64 m.who, .int .i64 m.gen, .int .i64 m.seq, .int .i64 m.epoch, .int .i64 m.value, .int .i64 m.metric] 61 (0, 0)) :: M)) (fun i => i.1 ≤ 3 ∧ slOk i.2 1 (putTo m i.1).length (bv (putTo m i.1))) (fun i => 3 - i.1) (0, σ) ?_ (Sub.cons rfl (Sub.cons rfl (Sub.cons rfl (Sub.cons rfl (Sub.nil _))))) ro_dim2 ?_
      · exact ⟨by omega, by rw [putTo_len m (by omega)]; exact hok⟩
      rintro ⟨k, σ⟩ ⟨hk, hok⟩
      dsimp only at hk hok ⊢
      refine TC.seq ?_
      refine TC.region ?_
      refine TL.val rfl rfl (Nat.le_of_ble_eq_true rfl) (Val.lss rfl rfl) ?_
      refine TL.nil ?_
      refine AtX.then ?_
      refine TC.seq ?_
      first | refine TC.condP rfl (fun c3 => ?_) (fun c3 => ?_) | refine TC.condN rfl (fun c3 => ?_) (fun c3 => ?_) | refine TC.condB rfl (fun c3 => ?_) (fun c3 => ?_) | refine TC.cond rfl (fun c3 => ?_) (fun c3 => ?_)
      · skip
        refine TC.skip ?_
        refine AtX.then ?_
        refine TC.seq ?_
        refine TC.block ?_
        refine TC.seq ?_
        have hlt : k < 3 := by omega
        obtain ⟨x, hx⟩ : ∃ x, (tailB m)[k]? = some x := ⟨_, List.getElem?_eq_getElem (by show k < 3; omega)⟩
        have hpl := putTo_len m hk
        refine TC.region ?_
        refine TL.val rfl rfl (Nat.le_of_ble_eq_true rfl) (Val.indexAddr (i := k) (r := k) rfl rfl sl36 sz2 rfl (by omega) (by omega)) ?_
        refine TL.val rfl rfl (Nat.le_of_ble_eq_true rfl) (Val.loadRd (o := 0) (j := k) rfl ag2 (Rd.app _ (Rd.get (M := (b4, .cells #[.int .i64 m.seq, .int .i64 m.epoch, .int .i64 m.value] 2 (0, 0)) :: (b1, .cells #[.int .i64 m.kind, .int .i64 m.who, .int .i64 m.gen, .int .i64 m.seq, .int .i64 m.epoch, .int .i64 m.value, .int .i64 m.metric] 61 (0, 0)) :: M) (i := 0) (ys := (tailB m).map (Value.int .i64)) rfl rfl)) (by omega) (map_get hx)) ?_
        refine TL.val rfl rfl (Nat.le_of_ble_eq_true rfl) (Val.assign rfl) ?_
        refine TL.nil ?_
        refine AtX.then ?_
        refine TC.region ?_
        refine TL.val rfl rfl (Nat.le_of_ble_eq_true rfl) (Val.move rfl) ?_
        refine TL.val rfl rfl (Nat.le_of_ble_eq_true rfl) (Val.move rfl) ?_
        refine TL.val rfl rfl (Nat.le_of_ble_eq_true rfl) (Val.convI rfl iu2 in24 rfl) ?_
        refine TL.does (some 41) rfl rfl rfl (Does.callF go78 rfl (sipPut_fn _ _)) ?_
        rintro _ _ ⟨bQ, cQ, spQ, rfl, hcQ, rfl⟩
        refine TL.does (some 42) rfl rfl rfl (Does.appendS (xs := bv (putTo m k)) (ys := bv (put8 (IntKind.u64.wrap x))) σ ((b4, .cells #[.int .i64 m.seq, .int .i64 m.epoch, .int .i64 m.value] 2 (0, 0)) :: (b1, .cells #[.int .i64 m.kind, .int .i64 m.who, .int .i64 m.gen, .int .i64 m.seq, .int .i64 m.epoch, .int .i64 m.value, .int .i64 m.metric] 61 (0, 0)) :: M) (ro_tail ro_refl) rfl rfl sl37 sz5 by5 ze5 rfl hok (srcB us37 (rd_all (i := 0) rfl)) (by simp) (bv_one _) (by omega) (by omega)) ?_
        rintro _ _ ⟨σ1, rfl, hok1, rfl⟩
        refine TL.val rfl rfl (Nat.le_of_ble_eq_true rfl) (Val.assign rfl) ?_
        refine TL.nil ?_
        refine AtX.blk ?_
        refine AtX.then ?_
        refine TC.region ?_
        first
          | refine TL.val rfl rfl (Nat.le_of_ble_eq_true rfl) (Val.add rfl rfl (w_i64 (by omega) (by omega))) ?_
          | refine TL.val rfl rfl (Nat.le_of_ble_eq_true rfl) (Val.add rfl rfl rfl) ?_
        refine TL.val rfl rfl (Nat.le_of_ble_eq_true rfl) (Val.move rfl) ?_
        refine TL.nil ?_
        refine AtX.round (i := (k, σ)) (k + 1, σ1) ?_ ?_ (Sub.cons (by rw [putTo_S hx, List.length_append, put8_len]; rfl) (Sub.cons rfl (Sub.cons rfl (Sub.cons rfl (Sub.nil _))))) (fun w h => by dsimp only; rw [putTo_S hx, bv_append]; exact h)
        · exact ⟨by omega, by dsimp only; rw [putTo_S hx, List.length_append, bv_append, put8_len]; exact hok1⟩
        · show 3 - (k + 1) < 3 - k; omega
      · skip
        refine TC.exit ?_
        refine AtX.seqX ?_
        refine AtX.seqX ?_
        refine AtX.hit ?_
        refine AtX.then ?_
        refine TC.env (E' := [(4, _)]) (Sub.cons rfl (Sub.nil _)) ?_
        refine TC.seq ?_
        have h3 : k = 3 := by omega
        subst h3
        rw [putTo_3] at hok ⊢
        rw [putM_len] at hok ⊢
        obtain ⟨b, c, sp, rfl, hc⟩ := hok.some (by omega)
        refine TC.region ?_
        refine TL.val rfl rfl (Nat.le_of_ble_eq_true rfl) (Val.move rfl) ?_
        refine TL.val rfl rfl (Nat.le_of_ble_eq_true rfl) (Val.assign rfl) ?_
        refine TL.val rfl rfl (Nat.le_of_ble_eq_true rfl) (Val.assign rfl) ?_
        refine TL.nil ?_
        refine AtX.then ?_
        refine TC.env (E' := [(2, _), (3, _)]) (Sub.cons rfl (Sub.cons rfl (Sub.nil _))) ?_
        refine TC.ret2 (fn := Try.f38) (fun _ _ h => h) rfl (RV.tmp rfl) (RV.tmp rfl) (M' := (b, row 5 (bv (putM m) ++ sp)) :: M) (fun w h => ro_del 1 rfl w (ro_del 1 rfl w h)) ?_
        exact ⟨b, c, sp, rfl, by simpa using hc, rfl⟩

/-- quorumite/wire.Seal -/
theorem wSeal_fn (k : K2) (m : Ms) (M : Hp) (hm : mayM m = true) : FnC Try.prog 36 #[.agg #[.int .u64 k.a, .int .u64 k.b], .agg #[.int .i64 m.kind, .int .i64 m.who, .int .i64 m.gen, .int .i64 m.seq, .int .i64 m.epoch, .int .i64 m.value, .int .i64 m.metric]] M (fun v M' => ∃ b c sp, v = .tuple #[.slice (some ⟨b, 0, none⟩) 48 c, .int .i64 0] ∧ 48 + sp.length = c ∧ M' = (b, row 5 (bv (sealB k m) ++ sp)) :: M) := by
  refine FnC.intro Try.func36 rfl 22 rfl (by simp) (fun z => ?_)
  refine TC.env (E' := [(0, _), (1, _)]) (Sub.cons rfl (Sub.cons rfl (Sub.nil _))) ?_
  refine TC.seq ?_
  refine TC.region ?_
  refine TL.does (some 2) rfl rfl rfl (Does.box rfl rfl) ?_
  rintro _ _ ⟨b1, rfl, rfl⟩
  refine TL.does (some 3) rfl rfl rfl (Does.box rfl rfl) ?_
  rintro _ _ ⟨b2, rfl, rfl⟩
  refine TL.val rfl rfl (Nat.le_of_ble_eq_true rfl) (Val.assign rfl) ?_
  refine TL.val rfl rfl (Nat.le_of_ble_eq_true rfl) (Val.assign rfl) ?_
  refine TL.nil ?_
  refine AtX.then ?_
  refine TC.env (E' := [(2, _), (3, _), (4, _), (5, _)]) (Sub.cons rfl (Sub.cons rfl (Sub.cons rfl (Sub.cons rfl (Sub.nil _))))) ?_
  refine TC.seq ?_
  refine TC.region ?_
  first
    | refine TL.val rfl rfl (Nat.le_of_ble_eq_true rfl) (Val.loadAgg 0 rfl ag61 sz61 rfl rfl rfl) ?_
    | refine TL.val rfl rfl (Nat.le_of_ble_eq_true rfl) (Val.loadAgg 1 rfl ag61 sz61 rfl rfl rfl) ?_
    | refine TL.val rfl rfl (Nat.le_of_ble_eq_true rfl) (Val.loadAgg 2 rfl ag61 sz61 rfl rfl rfl) ?_
    | refine TL.val rfl rfl (Nat.le_of_ble_eq_true rfl) (Val.loadAgg 3 rfl ag61 sz61 rfl rfl rfl) ?_
    | refine TL.val rfl rfl (Nat.le_of_ble_eq_true rfl) (Val.loadAgg 4 rfl ag61 sz61 rfl rfl rfl) ?_
    | refine TL.val rfl rfl (Nat.le_of_ble_eq_true rfl) (Val.loadAgg 5 rfl ag61 sz61 rfl rfl rfl) ?_
  refine TL.does (some 10) rfl rfl rfl (Does.callF go38 rfl (wPut_fn m _ hm)) ?_
  rintro _ _ ⟨bB, cB, spB, rfl, hcB, rfl⟩
  refine TL.val rfl rfl (Nat.le_of_ble_eq_true rfl) (Val.move rfl) ?_
  refine TL.val rfl rfl (Nat.le_of_ble_eq_true rfl) (Val.extract rfl rfl) ?_
  refine TL.val rfl rfl (Nat.le_of_ble_eq_true rfl) (Val.extract rfl rfl) ?_
  refine TL.val rfl rfl (Nat.le_of_ble_eq_true rfl) (Val.assign rfl) ?_
  refine TL.val rfl rfl (Nat.le_of_ble_eq_true rfl) (Val.assign rfl) ?_
  refine TL.nil ?_
  refine AtX.then ?_
  refine TC.env (E' := [(2, _), (4, _), (5, _), (6, _), (7, _)]) (Sub.cons rfl (Sub.cons rfl (Sub.cons rfl (Sub.cons rfl (Sub.cons rfl (Sub.nil _)))))) ?_
  refine TC.seq ?_
  refine TC.seq ?_
  refine TC.region ?_
  refine TL.val rfl rfl (Nat.le_of_ble_eq_true rfl) (Val.move rfl) ?_
  refine TL.val rfl rfl (Nat.le_of_ble_eq_true rfl) (Val.neqI rfl rfl) ?_
  refine TL.nil ?_
  refine AtX.then ?_
  refine TC.env (E' := [(2, _), (4, _), (5, _), (6, _), (7, _), (14, _)]) (Sub.cons rfl (Sub.cons rfl (Sub.cons rfl (Sub.cons rfl (Sub.cons rfl (Sub.cons rfl (Sub.nil _))))))) ?_
  first | refine TC.condP rfl (fun c1 => ?_) (fun c1 => ?_) | refine TC.condN rfl (fun c1 => ?_) (fun c1 => ?_) | refine TC.condB rfl (fun c1 => ?_) (fun c1 => ?_) | refine TC.cond rfl (fun c1 => ?_) (fun c1 => ?_)
  · skip
    exact absurd rfl c1
  · skip
    refine TC.env (E' := [(2, _), (4, _), (5, _), (6, _)]) (Sub.cons rfl (Sub.cons rfl (Sub.cons rfl (Sub.cons rfl (Sub.nil _))))) ?_
    refine TC.skip ?_
    refine AtX.then ?_
    refine TC.env (E' := [(2, _), (4, _), (5, _), (6, _)]) (Sub.cons rfl (Sub.cons rfl (Sub.cons rfl (Sub.cons rfl (Sub.nil _))))) ?_
    refine TC.seq ?_
    refine TC.region ?_
    refine TL.val rfl rfl (Nat.le_of_ble_eq_true rfl) (Val.move rfl) ?_
    first
      | refine TL.val rfl rfl (Nat.le_of_ble_eq_true rfl) (Val.loadAgg 0 rfl ag69 sz69 rfl rfl rfl) ?_
      | refine TL.val rfl rfl (Nat.le_of_ble_eq_true rfl) (Val.loadAgg 1 rfl ag69 sz69 rfl rfl rfl) ?_
      | refine TL.val rfl rfl (Nat.le_of_ble_eq_true rfl) (Val.loadAgg 2 rfl ag69 sz69 rfl rfl rfl) ?_
      | refine TL.val rfl rfl (Nat.le_of_ble_eq_true rfl) (Val.loadAgg 3 rfl ag69 sz69 rfl rfl rfl) ?_
      | refine TL.val rfl rfl (Nat.le_of_ble_eq_true rfl) (Val.loadAgg 4 rfl ag69 sz69 rfl rfl rfl) ?_
      | refine TL.val rfl rfl (Nat.le_of_ble_eq_true rfl) (Val.loadAgg 5 rfl ag69 sz69 rfl rfl rfl) ?_
    refine TL.val rfl rfl (Nat.le_of_ble_eq_true rfl) (Val.move rfl) ?_
    refine TL.does (some 19) rfl rfl rfl (Does.callF go40 rfl (Tag_fn k (putM m) _ _ _ _ (rd_all (i := 0) rfl) (by simp) (by simp))) ?_
    rintro _ _ ⟨rfl, rfl⟩
    refine TL.does (some 20) rfl rfl rfl (Does.callF go75 rfl (Bytes_fn (tagOf k (putM m)) _)) ?_
    rintro _ _ ⟨bT, cT, spT, rfl, hcT, rfl⟩
    refine TL.does (some 21) rfl rfl rfl (Does.appendS (xs := bv (putM m)) (ys := bv (tagB (tagOf k (putM m)))) (some (bB, cB, spB)) _ (ro_tail ro_refl) rfl rfl sl37 sz5 by5 ze5 rfl ⟨by simp, by simpa using hcB⟩ (srcB us37 (rd_all (i := 0) rfl)) (by simp) (bv_one _) (by omega) (by omega)) ?_
    rintro _ _ ⟨σ, rfl, hok, rfl⟩
    rw [← bv_append] at hok ⊢
    obtain ⟨b, c, sp, rfl, hc⟩ := hok.some (by omega)
    refine TL.val rfl rfl (Nat.le_of_ble_eq_true rfl) (Val.assign rfl) ?_
    refine TL.val rfl rfl (Nat.le_of_ble_eq_true rfl) (Val.assign rfl) ?_
    refine TL.nil ?_
    refine AtX.then ?_
    refine TC.env (E' := [(4, _), (5, _)]) (Sub.cons rfl (Sub.cons rfl (Sub.nil _))) ?_
    refine TC.ret2 (fn := Try.f36) (fun _ _ h => h) rfl (RV.tmp rfl) (RV.tmp rfl) (M' := (b, row 5 (bv (sealB k m) ++ sp)) :: M) (fun w h => ro_del 1 rfl w (ro_del 1 rfl w h)) ?_
    exact ⟨b, c, sp, rfl, by simpa using hc, rfl⟩

end Go.Proofs.Ytphoapajlcaoeaa
