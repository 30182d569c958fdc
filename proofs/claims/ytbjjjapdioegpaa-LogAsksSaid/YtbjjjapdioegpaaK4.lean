/- walks -/
import Derived.Test.YtbjjjapdioegpaaK3
import Derived.Test.YtbjjjapdioegpaaE9d
set_option linter.unusedVariables false
set_option linter.unusedSimpArgs false
set_option maxRecDepth 100000
set_option maxHeartbeats 4000000
namespace Go.Proofs.Ytbjjjapdioegpaa
open Go Go.X
/-- quorumite/quorumitelaw18.LogAsks -/
theorem LogAsks_fn (p pl kd : Int) (l : List UInt8) (A : Option Addr) (n c : Nat) (s : List UInt8) (B : Option Addr) (m k : Nat) (q : Int) (M : Hp) (hA : RdS M A (bv l)) (hn : n = l.length) (hB : RdS M B (bv s)) (hm : m = s.length) (hk : m ≤ k) : FnC Try.prog 3 #[.agg #[.int .u32 p, .int .i64 pl, .int .i64 kd, .slice A n c], .slice B m k, .int .u32 q] M (fun v M' => v = .bool true ∧ M = M') := by
  subst hn
  subst hm
  refine FnC.intro Try.func3 rfl 110 rfl (by simp) (fun z => ?_)
  refine TC.env (E' := [(0, _), (1, _), (2, _)]) (Sub.cons rfl (Sub.cons rfl (Sub.cons rfl (Sub.nil _)))) ?_
  refine TC.seq ?_
  refine TC.region ?_
  refine TL.does (some 3) rfl rfl rfl (Does.box rfl rfl) ?_
  rintro _ _ ⟨b1, rfl, rfl⟩
  refine TL.val rfl rfl (Nat.le_of_ble_eq_true rfl) (Val.assign rfl) ?_
  refine TL.nil ?_
  refine AtX.then ?_
  refine TC.env (E' := [(1, _), (2, _), (3, _), (6, _)]) (Sub.cons rfl (Sub.cons rfl (Sub.cons rfl (Sub.cons rfl (Sub.nil _))))) ?_
  refine TC.seq ?_
  refine TC.seq ?_
  refine TC.region ?_
  refine TL.val rfl rfl (Nat.le_of_ble_eq_true rfl) (Val.fieldAddr rfl fl25_3 sz23 rfl) ?_
  first
    | refine TL.val rfl rfl (Nat.le_of_ble_eq_true rfl) (Val.load 0 rfl ag23 rfl rfl) ?_
    | refine TL.val rfl rfl (Nat.le_of_ble_eq_true rfl) (Val.load 1 rfl ag23 rfl rfl) ?_
    | refine TL.val rfl rfl (Nat.le_of_ble_eq_true rfl) (Val.load 2 rfl ag23 rfl rfl) ?_
    | refine TL.val rfl rfl (Nat.le_of_ble_eq_true rfl) (Val.load 3 rfl ag23 rfl rfl) ?_
    | refine TL.val rfl rfl (Nat.le_of_ble_eq_true rfl) (Val.load 4 rfl ag23 rfl rfl) ?_
    | refine TL.val rfl rfl (Nat.le_of_ble_eq_true rfl) (Val.load 5 rfl ag23 rfl rfl) ?_
  refine TL.val rfl rfl (Nat.le_of_ble_eq_true rfl) (Val.lenSl rfl rfl sl23) ?_
  refine TL.val rfl rfl (Nat.le_of_ble_eq_true rfl) (Val.gtr rfl rfl) ?_
  refine TL.val rfl rfl (Nat.le_of_ble_eq_true rfl) (Val.move rfl) ?_
  refine TL.gen (fun g2 hg2 => ?_)
  refine TL.gval rfl rfl (Nat.le_of_ble_eq_true rfl) rfl (Nat.le_of_ble_eq_true rfl) rfl (fun hg => by subst hg; exact (Val.move rfl)) ?_
  refine TL.gval rfl rfl (Nat.le_of_ble_eq_true rfl) rfl (Nat.le_of_ble_eq_true rfl) rfl (fun hg => by subst hg; exact (Val.lenSl rfl rfl sl23)) ?_
  refine TL.gval rfl rfl (Nat.le_of_ble_eq_true rfl) rfl (Nat.le_of_ble_eq_true rfl) rfl (fun hg => by subst hg; exact (Val.gtr rfl rfl)) ?_
  first
    | refine TL.val rfl rfl (Nat.le_of_ble_eq_true rfl) (Val.pickAnd rfl rfl rfl) ?_
    | refine TL.val rfl rfl (Nat.le_of_ble_eq_true rfl) (Val.pickOr rfl rfl rfl) ?_
    | refine TL.val rfl rfl (Nat.le_of_ble_eq_true rfl) (Val.pick rfl rfl rfl) ?_
  refine TL.nil ?_
  refine AtX.then ?_
  refine TC.env (E' := [(1, _), (2, _), (3, _), (6, _), (26, _)]) (Sub.cons rfl (Sub.cons rfl (Sub.cons rfl (Sub.cons rfl (Sub.cons rfl (Sub.nil _)))))) ?_
  first | refine TC.condP rfl (fun c1 => ?_) (fun c1 => ?_) | refine TC.condN rfl (fun c1 => ?_) (fun c1 => ?_) | refine TC.condB rfl (fun c1 => ?_) (fun c1 => ?_) | refine TC.cond rfl (fun c1 => ?_) (fun c1 => ?_)
  · skip
    refine TC.env (E' := [(1, _), (2, _), (3, _), (6, _)]) (Sub.cons rfl (Sub.cons rfl (Sub.cons rfl (Sub.cons rfl (Sub.nil _))))) ?_
    refine TC.seq ?_
    refine TC.region ?_
    refine TL.does (some 27) rfl rfl rfl (Does.callF go9 rfl (told_fn _)) ?_
    rintro _ _ ⟨rfl, rfl⟩
    refine TL.val rfl rfl (Nat.le_of_ble_eq_true rfl) (Val.assign rfl) ?_
    refine TL.nil ?_
    refine AtX.then ?_
    refine TC.env (E' := [(1, _), (2, _), (3, _), (6, _)]) (Sub.cons rfl (Sub.cons rfl (Sub.cons rfl (Sub.cons rfl (Sub.nil _))))) ?_
    refine TC.ret1 (fn := Try.f3) (fun _ _ h => h) rfl (RV.tmp rfl) (M' := M) (by repeat (first | exact ro_refl | refine ro_tail ?_ | exact fun w h => ro_pre w (ro_pre w h))) ?_
    exact ⟨rfl, rfl⟩
  · skip
    refine TC.env (E' := [(1, _), (2, _), (3, _), (6, _)]) (Sub.cons rfl (Sub.cons rfl (Sub.cons rfl (Sub.cons rfl (Sub.nil _))))) ?_
    refine TC.skip ?_
    refine AtX.then ?_
    refine TC.env (E' := [(1, _), (2, _), (3, _), (6, _)]) (Sub.cons rfl (Sub.cons rfl (Sub.cons rfl (Sub.cons rfl (Sub.nil _))))) ?_
    refine TC.seq ?_
    have hlen : l.length ≤ 60 ∧ s.length ≤ 80 := by clear hA hB; grind
    refine TC.region ?_
    refine TL.val rfl rfl (Nat.le_of_ble_eq_true rfl) (Val.fieldAddr rfl fl25_0 sz22 rfl) ?_
    first
      | refine TL.val rfl rfl (Nat.le_of_ble_eq_true rfl) (Val.load 0 rfl ag22 rfl rfl) ?_
      | refine TL.val rfl rfl (Nat.le_of_ble_eq_true rfl) (Val.load 1 rfl ag22 rfl rfl) ?_
      | refine TL.val rfl rfl (Nat.le_of_ble_eq_true rfl) (Val.load 2 rfl ag22 rfl rfl) ?_
      | refine TL.val rfl rfl (Nat.le_of_ble_eq_true rfl) (Val.load 3 rfl ag22 rfl rfl) ?_
      | refine TL.val rfl rfl (Nat.le_of_ble_eq_true rfl) (Val.load 4 rfl ag22 rfl rfl) ?_
      | refine TL.val rfl rfl (Nat.le_of_ble_eq_true rfl) (Val.load 5 rfl ag22 rfl rfl) ?_
    refine TL.val rfl rfl (Nat.le_of_ble_eq_true rfl) (Val.fieldAddr rfl fl25_1 sz3 rfl) ?_
    first
      | refine TL.val rfl rfl (Nat.le_of_ble_eq_true rfl) (Val.load 0 rfl ag3 rfl rfl) ?_
      | refine TL.val rfl rfl (Nat.le_of_ble_eq_true rfl) (Val.load 1 rfl ag3 rfl rfl) ?_
      | refine TL.val rfl rfl (Nat.le_of_ble_eq_true rfl) (Val.load 2 rfl ag3 rfl rfl) ?_
      | refine TL.val rfl rfl (Nat.le_of_ble_eq_true rfl) (Val.load 3 rfl ag3 rfl rfl) ?_
      | refine TL.val rfl rfl (Nat.le_of_ble_eq_true rfl) (Val.load 4 rfl ag3 rfl rfl) ?_
      | refine TL.val rfl rfl (Nat.le_of_ble_eq_true rfl) (Val.load 5 rfl ag3 rfl rfl) ?_
    refine TL.val rfl rfl (Nat.le_of_ble_eq_true rfl) (Val.fieldAddr rfl fl25_2 sz3 rfl) ?_
    first
      | refine TL.val rfl rfl (Nat.le_of_ble_eq_true rfl) (Val.load 0 rfl ag3 rfl rfl) ?_
      | refine TL.val rfl rfl (Nat.le_of_ble_eq_true rfl) (Val.load 1 rfl ag3 rfl rfl) ?_
      | refine TL.val rfl rfl (Nat.le_of_ble_eq_true rfl) (Val.load 2 rfl ag3 rfl rfl) ?_
      | refine TL.val rfl rfl (Nat.le_of_ble_eq_true rfl) (Val.load 3 rfl ag3 rfl rfl) ?_
      | refine TL.val rfl rfl (Nat.le_of_ble_eq_true rfl) (Val.load 4 rfl ag3 rfl rfl) ?_
      | refine TL.val rfl rfl (Nat.le_of_ble_eq_true rfl) (Val.load 5 rfl ag3 rfl rfl) ?_
    refine TL.val rfl rfl (Nat.le_of_ble_eq_true rfl) (Val.fieldAddr rfl fl25_3 sz23 rfl) ?_
    first
      | refine TL.val rfl rfl (Nat.le_of_ble_eq_true rfl) (Val.load 0 rfl ag23 rfl rfl) ?_
      | refine TL.val rfl rfl (Nat.le_of_ble_eq_true rfl) (Val.load 1 rfl ag23 rfl rfl) ?_
      | refine TL.val rfl rfl (Nat.le_of_ble_eq_true rfl) (Val.load 2 rfl ag23 rfl rfl) ?_
      | refine TL.val rfl rfl (Nat.le_of_ble_eq_true rfl) (Val.load 3 rfl ag23 rfl rfl) ?_
      | refine TL.val rfl rfl (Nat.le_of_ble_eq_true rfl) (Val.load 4 rfl ag23 rfl rfl) ?_
      | refine TL.val rfl rfl (Nat.le_of_ble_eq_true rfl) (Val.load 5 rfl ag23 rfl rfl) ?_
    refine TL.val rfl rfl (Nat.le_of_ble_eq_true rfl) (Val.b2s (l := l) rfl us23 ui5 un9 rfl (by repeat (first | exact hA | apply RdS.cons | apply RdS.pre | apply RdS.suf))) ?_
    refine TL.val rfl rfl (Nat.le_of_ble_eq_true rfl) (Val.buildS pl28 ze28 rfl rfl) ?_
    refine TL.does (some 7) rfl rfl rfl (Does.alloc ze28 rfl) ?_
    rintro _ _ ⟨b4, rfl, rfl⟩
    first
      | refine TL.does none rfl rfl rfl (Does.store (i := 0) rfl rfl rfl sz28 rfl rfl (by first | decide | omega) rfl rfl) ?_
      | refine TL.does none rfl rfl rfl (Does.store (i := 1) rfl rfl rfl sz28 rfl rfl (by first | decide | omega) rfl rfl) ?_
      | refine TL.does none rfl rfl rfl (Does.store (i := 2) rfl rfl rfl sz28 rfl rfl (by first | decide | omega) rfl rfl) ?_
      | refine TL.does none rfl rfl rfl (Does.store (i := 3) rfl rfl rfl sz28 rfl rfl (by first | decide | omega) rfl rfl) ?_
      | refine TL.does none rfl rfl rfl (Does.store (i := 4) rfl rfl rfl sz28 rfl rfl (by first | decide | omega) rfl rfl) ?_
      | refine TL.does none rfl rfl rfl (Does.store (i := 5) rfl rfl rfl sz28 rfl rfl (by first | decide | omega) rfl rfl) ?_
    rintro _ _ ⟨rfl, rfl⟩
    refine TL.nil ?_
    refine AtX.then ?_
    refine TC.env (E' := [(1, _), (2, _), (3, _), (6, _), (7, _)]) (Sub.cons rfl (Sub.cons rfl (Sub.cons rfl (Sub.cons rfl (Sub.cons rfl (Sub.nil _)))))) ?_
    refine TC.seq ?_
    refine TC.region ?_
    first
      | refine TL.val rfl rfl (Nat.le_of_ble_eq_true rfl) (Val.loadAgg 0 rfl ag25 sz25 rfl rfl rfl) ?_
      | refine TL.val rfl rfl (Nat.le_of_ble_eq_true rfl) (Val.loadAgg 1 rfl ag25 sz25 rfl rfl rfl) ?_
      | refine TL.val rfl rfl (Nat.le_of_ble_eq_true rfl) (Val.loadAgg 2 rfl ag25 sz25 rfl rfl rfl) ?_
      | refine TL.val rfl rfl (Nat.le_of_ble_eq_true rfl) (Val.loadAgg 3 rfl ag25 sz25 rfl rfl rfl) ?_
      | refine TL.val rfl rfl (Nat.le_of_ble_eq_true rfl) (Val.loadAgg 4 rfl ag25 sz25 rfl rfl rfl) ?_
      | refine TL.val rfl rfl (Nat.le_of_ble_eq_true rfl) (Val.loadAgg 5 rfl ag25 sz25 rfl rfl rfl) ?_
    refine TL.does (some 40) rfl rfl rfl (Does.callF go10 rfl (Put_all p pl kd l A _ c _ (by repeat (first | exact hA | apply RdS.cons | apply RdS.pre | apply RdS.suf)) rfl)) ?_
    rintro _ _ ⟨σp, rfl, hokp, rfl⟩
    refine TL.val rfl rfl (Nat.le_of_ble_eq_true rfl) (Val.move rfl) ?_
    refine TL.val rfl rfl (Nat.le_of_ble_eq_true rfl) (Val.extract rfl rfl) ?_
    refine TL.val rfl rfl (Nat.le_of_ble_eq_true rfl) (Val.extract rfl rfl) ?_
    refine TL.val rfl rfl (Nat.le_of_ble_eq_true rfl) (Val.assign rfl) ?_
    refine TL.val rfl rfl (Nat.le_of_ble_eq_true rfl) (Val.assign rfl) ?_
    refine TL.nil ?_
    refine AtX.then ?_
    refine TC.env (E' := [(1, _), (2, _), (3, _), (6, _), (7, _), (8, _), (9, _)]) (Sub.cons rfl (Sub.cons rfl (Sub.cons rfl (Sub.cons rfl (Sub.cons rfl (Sub.cons rfl (Sub.cons rfl (Sub.nil _)))))))) ?_
    refine TC.seq ?_
    refine TC.region ?_
    first
      | refine TL.val rfl rfl (Nat.le_of_ble_eq_true rfl) (Val.loadAgg 0 rfl ag28 sz28 rfl rfl rfl) ?_
      | refine TL.val rfl rfl (Nat.le_of_ble_eq_true rfl) (Val.loadAgg 1 rfl ag28 sz28 rfl rfl rfl) ?_
      | refine TL.val rfl rfl (Nat.le_of_ble_eq_true rfl) (Val.loadAgg 2 rfl ag28 sz28 rfl rfl rfl) ?_
      | refine TL.val rfl rfl (Nat.le_of_ble_eq_true rfl) (Val.loadAgg 3 rfl ag28 sz28 rfl rfl rfl) ?_
      | refine TL.val rfl rfl (Nat.le_of_ble_eq_true rfl) (Val.loadAgg 4 rfl ag28 sz28 rfl rfl rfl) ?_
      | refine TL.val rfl rfl (Nat.le_of_ble_eq_true rfl) (Val.loadAgg 5 rfl ag28 sz28 rfl rfl rfl) ?_
    refine TL.does (some 45) rfl rfl rfl (Does.callF go11 rfl (PutCell_fn _ _ _ _ _)) ?_
    rintro _ _ ⟨rfl, rfl⟩
    refine TL.val rfl rfl (Nat.le_of_ble_eq_true rfl) (Val.move rfl) ?_
    refine TL.val rfl rfl (Nat.le_of_ble_eq_true rfl) (Val.extract rfl rfl) ?_
    refine TL.val rfl rfl (Nat.le_of_ble_eq_true rfl) (Val.extract rfl rfl) ?_
    refine TL.val rfl rfl (Nat.le_of_ble_eq_true rfl) (Val.assign rfl) ?_
    refine TL.val rfl rfl (Nat.le_of_ble_eq_true rfl) (Val.assign rfl) ?_
    refine TL.nil ?_
    refine AtX.then ?_
    refine TC.env (E' := [(1, _), (2, _), (3, _), (6, _), (7, _), (8, _), (9, _), (10, _), (11, _)]) (Sub.cons rfl (Sub.cons rfl (Sub.cons rfl (Sub.cons rfl (Sub.cons rfl (Sub.cons rfl (Sub.cons rfl (Sub.cons rfl (Sub.cons rfl (Sub.nil _)))))))))) ?_
    refine TC.seq ?_
    refine TC.region ?_
    refine TL.val rfl rfl (Nat.le_of_ble_eq_true rfl) (Val.move rfl) ?_
    refine TL.does (some 50) rfl rfl rfl (Does.callF go12 rfl (Get_all s B _ k _ (by repeat (first | exact hB | apply RdS.cons | apply RdS.pre | apply RdS.suf)) rfl hk)) ?_
    rintro _ _ ⟨σg, rfl, hokg, rfl⟩
    refine TL.val rfl rfl (Nat.le_of_ble_eq_true rfl) (Val.move rfl) ?_
    refine TL.val rfl rfl (Nat.le_of_ble_eq_true rfl) (Val.extract rfl rfl) ?_
    refine TL.val rfl rfl (Nat.le_of_ble_eq_true rfl) (Val.extract rfl rfl) ?_
    refine TL.val rfl rfl (Nat.le_of_ble_eq_true rfl) (Val.extract rfl rfl) ?_
    refine TL.does (some 12) rfl rfl rfl (Does.alloc ze31 rfl) ?_
    rintro _ _ ⟨b8, rfl, rfl⟩
    first
      | refine TL.does none rfl rfl rfl (Does.store (i := 0) rfl rfl rfl sz31 rfl rfl (by first | decide | omega) rfl rfl) ?_
      | refine TL.does none rfl rfl rfl (Does.store (i := 1) rfl rfl rfl sz31 rfl rfl (by first | decide | omega) rfl rfl) ?_
      | refine TL.does none rfl rfl rfl (Does.store (i := 2) rfl rfl rfl sz31 rfl rfl (by first | decide | omega) rfl rfl) ?_
      | refine TL.does none rfl rfl rfl (Does.store (i := 3) rfl rfl rfl sz31 rfl rfl (by first | decide | omega) rfl rfl) ?_
      | refine TL.does none rfl rfl rfl (Does.store (i := 4) rfl rfl rfl sz31 rfl rfl (by first | decide | omega) rfl rfl) ?_
      | refine TL.does none rfl rfl rfl (Does.store (i := 5) rfl rfl rfl sz31 rfl rfl (by first | decide | omega) rfl rfl) ?_
    rintro _ _ ⟨rfl, rfl⟩
    refine TL.val rfl rfl (Nat.le_of_ble_eq_true rfl) (Val.assign rfl) ?_
    refine TL.val rfl rfl (Nat.le_of_ble_eq_true rfl) (Val.assign rfl) ?_
    refine TL.nil ?_
    refine AtX.then ?_
    refine TC.env (E' := [(1, _), (2, _), (3, _), (6, _), (7, _), (8, _), (9, _), (10, _), (11, _), (12, _), (13, _), (14, _)]) (Sub.cons rfl (Sub.cons rfl (Sub.cons rfl (Sub.cons rfl (Sub.cons rfl (Sub.cons rfl (Sub.cons rfl (Sub.cons rfl (Sub.cons rfl (Sub.cons rfl (Sub.cons rfl (Sub.cons rfl (Sub.nil _))))))))))))) ?_
    refine TC.seq ?_
    refine TC.region ?_
    refine TL.val rfl rfl (Nat.le_of_ble_eq_true rfl) (Val.move rfl) ?_
    refine TL.val rfl rfl (Nat.le_of_ble_eq_true rfl) (Val.b2s (l := s) rfl us23 ui5 un9 rfl (by repeat (first | exact hB | apply RdS.cons | apply RdS.pre | apply RdS.suf))) ?_
    refine TL.does (some 57) rfl rfl rfl (Does.callF go13 rfl (GetCell_fn s _)) ?_
    rintro _ _ ⟨rfl, rfl⟩
    refine TL.val rfl rfl (Nat.le_of_ble_eq_true rfl) (Val.move rfl) ?_
    refine TL.val rfl rfl (Nat.le_of_ble_eq_true rfl) (Val.extract rfl rfl) ?_
    refine TL.val rfl rfl (Nat.le_of_ble_eq_true rfl) (Val.extract rfl rfl) ?_
    refine TL.val rfl rfl (Nat.le_of_ble_eq_true rfl) (Val.extract rfl rfl) ?_
    refine TL.does (some 15) rfl rfl rfl (Does.alloc ze28 rfl) ?_
    rintro _ _ ⟨b10, rfl, rfl⟩
    first
      | refine TL.does none rfl rfl rfl (Does.store (i := 0) rfl rfl rfl sz28 rfl rfl (by first | decide | omega) rfl rfl) ?_
      | refine TL.does none rfl rfl rfl (Does.store (i := 1) rfl rfl rfl sz28 rfl rfl (by first | decide | omega) rfl rfl) ?_
      | refine TL.does none rfl rfl rfl (Does.store (i := 2) rfl rfl rfl sz28 rfl rfl (by first | decide | omega) rfl rfl) ?_
      | refine TL.does none rfl rfl rfl (Does.store (i := 3) rfl rfl rfl sz28 rfl rfl (by first | decide | omega) rfl rfl) ?_
      | refine TL.does none rfl rfl rfl (Does.store (i := 4) rfl rfl rfl sz28 rfl rfl (by first | decide | omega) rfl rfl) ?_
      | refine TL.does none rfl rfl rfl (Does.store (i := 5) rfl rfl rfl sz28 rfl rfl (by first | decide | omega) rfl rfl) ?_
    rintro _ _ ⟨rfl, rfl⟩
    refine TL.val rfl rfl (Nat.le_of_ble_eq_true rfl) (Val.assign rfl) ?_
    refine TL.val rfl rfl (Nat.le_of_ble_eq_true rfl) (Val.assign rfl) ?_
    refine TL.nil ?_
    refine AtX.then ?_
    refine TC.env (E' := [(1, _), (2, _), (3, _), (6, _), (7, _), (8, _), (9, _), (10, _), (11, _), (12, _), (13, _), (14, _), (15, _), (16, _), (17, _)]) (Sub.cons rfl (Sub.cons rfl (Sub.cons rfl (Sub.cons rfl (Sub.cons rfl (Sub.cons rfl (Sub.cons rfl (Sub.cons rfl (Sub.cons rfl (Sub.cons rfl (Sub.cons rfl (Sub.cons rfl (Sub.cons rfl (Sub.cons rfl (Sub.cons rfl (Sub.nil _)))))))))))))))) ?_
    refine TC.seq ?_
    refine TC.drawLM mixed 50 ?_
    refine TA.one 0 (by kernel_rfl) ?_
    refine TO.dz 1 (some 61) rfl rfl rfl rfl (Does.callF go9 rfl (told_fn _)) ?_
    rintro _ _ ⟨rfl, rfl⟩
    refine roK ?_
    refine TA.tk 1 3 rfl rfl rfl (Val.move rfl) ?_
    first
      | refine TA.tkY 2 7 rfl rfl rfl rfl rfl (Val.loadAgg 0 rfl ag25 sz25 rfl rfl rfl) ?_
      | refine TA.tkY 2 7 rfl rfl rfl rfl rfl (Val.loadAgg 1 rfl ag25 sz25 rfl rfl rfl) ?_
      | refine TA.tkY 2 7 rfl rfl rfl rfl rfl (Val.loadAgg 2 rfl ag25 sz25 rfl rfl rfl) ?_
      | refine TA.tkY 2 7 rfl rfl rfl rfl rfl (Val.loadAgg 3 rfl ag25 sz25 rfl rfl rfl) ?_
      | refine TA.tkY 2 7 rfl rfl rfl rfl rfl (Val.loadAgg 4 rfl ag25 sz25 rfl rfl rfl) ?_
      | refine TA.tkY 2 7 rfl rfl rfl rfl rfl (Val.loadAgg 5 rfl ag25 sz25 rfl rfl rfl) ?_
    first
      | refine TA.tkY 4 23 rfl rfl rfl rfl rfl (Val.loadAgg 0 rfl ag28 sz28 rfl rfl rfl) ?_
      | refine TA.tkY 4 23 rfl rfl rfl rfl rfl (Val.loadAgg 1 rfl ag28 sz28 rfl rfl rfl) ?_
      | refine TA.tkY 4 23 rfl rfl rfl rfl rfl (Val.loadAgg 2 rfl ag28 sz28 rfl rfl rfl) ?_
      | refine TA.tkY 4 23 rfl rfl rfl rfl rfl (Val.loadAgg 3 rfl ag28 sz28 rfl rfl rfl) ?_
      | refine TA.tkY 4 23 rfl rfl rfl rfl rfl (Val.loadAgg 4 rfl ag28 sz28 rfl rfl rfl) ?_
      | refine TA.tkY 4 23 rfl rfl rfl rfl rfl (Val.loadAgg 5 rfl ag28 sz28 rfl rfl rfl) ?_
    refine TA.one 3 (by kernel_rfl) ?_
    refine TO.dzY 31 (some 64) rfl rfl rfl rfl rfl rfl (Does.callF go14 rfl (May_fn _ _ _ _ _ _ _)) ?_
    rintro _ _ ⟨rfl, rfl⟩
    refine roK ?_
    refine TA.one 5 (by kernel_rfl) ?_
    refine TO.dzY 63 (some 66) rfl rfl rfl rfl rfl rfl (Does.callF go15 rfl (MayCell_fn _ _ _ _ _)) ?_
    rintro _ _ ⟨rfl, rfl⟩
    refine roK ?_
    refine TA.tkY 6 127 rfl rfl rfl rfl rfl (Val.same (v' := .bool true) (Val.eqlB rfl rfl un4) (by simp)) ?_
    first
      | refine TA.tk 7 255 rfl rfl rfl (Val.pickAnd rfl rfl rfl) ?_
      | refine TA.tk 7 255 rfl rfl rfl (Val.pickOr rfl rfl rfl) ?_
      | refine TA.tk 7 255 rfl rfl rfl (Val.pick rfl rfl rfl) ?_
    refine TA.tk 8 511 rfl rfl rfl (Val.move rfl) ?_
    refine TA.tkY 9 1023 rfl rfl rfl rfl rfl (Val.move rfl) ?_
    refine TA.tkY 10 2047 rfl rfl rfl rfl rfl (Val.move rfl) ?_
    refine TA.tkY 11 4095 rfl rfl rfl rfl rfl (Val.same (v' := .bool true) (Val.eqlI rfl rfl) (by simp)) ?_
    first
      | refine TA.tk 12 8191 rfl rfl rfl (Val.pickAnd rfl rfl rfl) ?_
      | refine TA.tk 12 8191 rfl rfl rfl (Val.pickOr rfl rfl rfl) ?_
      | refine TA.tk 12 8191 rfl rfl rfl (Val.pick rfl rfl rfl) ?_
    refine TA.tk 13 16383 rfl rfl rfl (Val.move rfl) ?_
    refine TA.tkY 14 32767 rfl rfl rfl rfl rfl (Val.move rfl) ?_
    refine TA.tkY 15 65535 rfl rfl rfl rfl rfl (Val.b2s rfl us23 ui5 un9 rfl (slRd hokp (fun x h => List.mem_cons_of_mem _ (List.mem_cons_of_mem _ (List.mem_append_left _ (List.mem_append_right _ h)))))) ?_
    refine TA.tkY 16 131071 rfl rfl rfl rfl rfl (Val.move rfl) ?_
    first
      | refine TA.tkY 17 262143 rfl rfl rfl rfl rfl (Val.same (v' := .bool true) (Val.eqlL rfl rfl) (by simp)) ?_
      | refine TA.tkY 17 262143 rfl rfl rfl rfl rfl (Val.same (v' := .bool true) (Val.eqlS rfl rfl) (by simp)) ?_
    first
      | refine TA.tk 18 524287 rfl rfl rfl (Val.pickAnd rfl rfl rfl) ?_
      | refine TA.tk 18 524287 rfl rfl rfl (Val.pickOr rfl rfl rfl) ?_
      | refine TA.tk 18 524287 rfl rfl rfl (Val.pick rfl rfl rfl) ?_
    refine TA.tk 19 1048575 rfl rfl rfl (Val.move rfl) ?_
    first
      | refine TA.tkY 20 2097151 rfl rfl rfl rfl rfl (Val.loadAgg 0 rfl ag31 sz31 rfl rfl rfl) ?_
      | refine TA.tkY 20 2097151 rfl rfl rfl rfl rfl (Val.loadAgg 1 rfl ag31 sz31 rfl rfl rfl) ?_
      | refine TA.tkY 20 2097151 rfl rfl rfl rfl rfl (Val.loadAgg 2 rfl ag31 sz31 rfl rfl rfl) ?_
      | refine TA.tkY 20 2097151 rfl rfl rfl rfl rfl (Val.loadAgg 3 rfl ag31 sz31 rfl rfl rfl) ?_
      | refine TA.tkY 20 2097151 rfl rfl rfl rfl rfl (Val.loadAgg 4 rfl ag31 sz31 rfl rfl rfl) ?_
      | refine TA.tkY 20 2097151 rfl rfl rfl rfl rfl (Val.loadAgg 5 rfl ag31 sz31 rfl rfl rfl) ?_
    first
      | refine TA.tkY 21 4194303 rfl rfl rfl rfl rfl (Val.loadAgg 0 rfl ag28 sz28 rfl rfl rfl) ?_
      | refine TA.tkY 21 4194303 rfl rfl rfl rfl rfl (Val.loadAgg 1 rfl ag28 sz28 rfl rfl rfl) ?_
      | refine TA.tkY 21 4194303 rfl rfl rfl rfl rfl (Val.loadAgg 2 rfl ag28 sz28 rfl rfl rfl) ?_
      | refine TA.tkY 21 4194303 rfl rfl rfl rfl rfl (Val.loadAgg 3 rfl ag28 sz28 rfl rfl rfl) ?_
      | refine TA.tkY 21 4194303 rfl rfl rfl rfl rfl (Val.loadAgg 4 rfl ag28 sz28 rfl rfl rfl) ?_
      | refine TA.tkY 21 4194303 rfl rfl rfl rfl rfl (Val.loadAgg 5 rfl ag28 sz28 rfl rfl rfl) ?_
    refine TA.one 22 (by kernel_rfl) ?_
    refine TO.dzY 8388607 (some 83) rfl rfl rfl rfl rfl rfl (Does.callF go16 rfl (same_fn (getP s).p (getP s).pl (getP s).kd (getP s).d _ _ _ _ (slRd hokg (fun x h => List.mem_cons_of_mem _ (List.mem_cons_of_mem _ (List.mem_append_right _ h)))) rfl)) ?_
    rintro _ _ ⟨rfl, rfl⟩
    refine roK ?_
    first
      | refine TA.tk 23 16777215 rfl rfl rfl (Val.pickAnd rfl rfl rfl) ?_
      | refine TA.tk 23 16777215 rfl rfl rfl (Val.pickOr rfl rfl rfl) ?_
      | refine TA.tk 23 16777215 rfl rfl rfl (Val.pick rfl rfl rfl) ?_
    refine TA.tk 24 33554431 rfl rfl rfl (Val.move rfl) ?_
    refine TA.tkY 25 67108863 rfl rfl rfl rfl rfl (Val.move rfl) ?_
    refine TA.tkY 26 134217727 rfl rfl rfl rfl rfl (Val.move rfl) ?_
    refine TA.tkY 27 268435455 rfl rfl rfl rfl rfl (Val.same (v' := .bool true) (Val.eqlB rfl rfl un4) (by simp)) ?_
    first
      | refine TA.tk 28 536870911 rfl rfl rfl (Val.pickAnd rfl rfl rfl) ?_
      | refine TA.tk 28 536870911 rfl rfl rfl (Val.pickOr rfl rfl rfl) ?_
      | refine TA.tk 28 536870911 rfl rfl rfl (Val.pick rfl rfl rfl) ?_
    refine TA.tk 29 1073741823 rfl rfl rfl (Val.move rfl) ?_
    refine TA.tkY 30 2147483647 rfl rfl rfl rfl rfl (Val.move rfl) ?_
    refine TA.tkY 31 4294967295 rfl rfl rfl rfl rfl (Val.move rfl) ?_
    refine TA.tkY 32 8589934591 rfl rfl rfl rfl rfl (Val.same (v' := .bool true) (Val.eqlI rfl rfl) (by simp)) ?_
    first
      | refine TA.tk 33 17179869183 rfl rfl rfl (Val.pickAnd rfl rfl rfl) ?_
      | refine TA.tk 33 17179869183 rfl rfl rfl (Val.pickOr rfl rfl rfl) ?_
      | refine TA.tk 33 17179869183 rfl rfl rfl (Val.pick rfl rfl rfl) ?_
    refine TA.tk 34 34359738367 rfl rfl rfl (Val.move rfl) ?_
    refine TA.tkY 35 68719476735 rfl rfl rfl rfl rfl (Val.move rfl) ?_
    refine TA.tkY 37 206158430207 rfl rfl rfl rfl rfl (Val.move rfl) ?_
    refine TA.one 36 (by kernel_rfl) ?_
    refine TO.dzY 274877906943 (some 97) rfl rfl rfl rfl rfl rfl (Does.callF go17 rfl (Mark_fn _ _)) ?_
    rintro _ _ ⟨rfl, rfl⟩
    refine roK ?_
    refine TA.one 38 (by kernel_rfl) ?_
    refine TO.dzY 549755813887 (some 99) rfl rfl rfl rfl rfl rfl (Does.callF go18 rfl (refMark_fn _ _)) ?_
    rintro _ _ ⟨rfl, rfl⟩
    refine roK ?_
    refine TA.tkY 39 1099511627775 rfl rfl rfl rfl rfl (Val.same (v' := .bool true) (Val.eqlI rfl rfl) (by simp)) ?_
    first
      | refine TA.tk 40 2199023255551 rfl rfl rfl (Val.pickAnd rfl rfl rfl) ?_
      | refine TA.tk 40 2199023255551 rfl rfl rfl (Val.pickOr rfl rfl rfl) ?_
      | refine TA.tk 40 2199023255551 rfl rfl rfl (Val.pick rfl rfl rfl) ?_
    refine TA.tk 41 4398046511103 rfl rfl rfl (Val.move rfl) ?_
    refine TA.tkY 42 8796093022207 rfl rfl rfl rfl rfl (Val.move rfl) ?_
    refine TA.tkY 44 26388279066623 rfl rfl rfl rfl rfl (Val.move rfl) ?_
    refine TA.tkY 45 61572651155455 rfl rfl rfl rfl rfl (Val.b2s (l := s) rfl us23 ui5 un9 rfl (by repeat (first | exact hB | apply RdS.cons | apply RdS.pre | apply RdS.suf))) ?_
    refine TA.one 43 (by kernel_rfl) ?_
    refine TO.dzY 70368744177663 (some 104) rfl rfl rfl rfl rfl rfl (Does.callF go19 rfl (Sum_fn s _ _ _ _ (by repeat (first | exact hB | apply RdS.cons | apply RdS.pre | apply RdS.suf)) rfl (by omega))) ?_
    rintro _ _ ⟨rfl, rfl⟩
    refine roK ?_
    refine TA.one 46 (by kernel_rfl) ?_
    refine TO.dzY 140737488355327 (some 107) rfl rfl rfl rfl rfl rfl (Does.callF go20 rfl (refSum_fn s _ (by omega))) ?_
    rintro _ _ ⟨rfl, rfl⟩
    refine roK ?_
    refine TA.tkY 47 281474976710655 rfl rfl rfl rfl rfl (Val.same (v' := .bool true) (Val.eqlI rfl rfl) (by simp)) ?_
    first
      | refine TA.tk 48 562949953421311 rfl rfl rfl (Val.pickAnd rfl rfl rfl) ?_
      | refine TA.tk 48 562949953421311 rfl rfl rfl (Val.pickOr rfl rfl rfl) ?_
      | refine TA.tk 48 562949953421311 rfl rfl rfl (Val.pick rfl rfl rfl) ?_
    refine TA.tk 49 1125899906842623 rfl rfl rfl (Val.assign rfl) ?_
    refine TA.done (by kernel_rfl) ?_
    refine AtX.then ?_
    refine TC.env (E' := [(6, _)]) (Sub.cons rfl (Sub.nil _)) ?_
    refine TC.ret1 (fn := Try.f3) (fun _ _ h => h) rfl (RV.tmp rfl) (M' := M) (by repeat (first | exact ro_refl | refine ro_tail ?_ | exact fun w h => ro_pre w (ro_pre w h))) ?_
    exact ⟨rfl, rfl⟩

end Go.Proofs.Ytbjjjapdioegpaa
