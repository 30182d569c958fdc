/- walks -/
import Derived.Test.YtbjjjapdioegpaaF
import Derived.Test.YtbjjjapdioegpaaES18
set_option linter.unusedVariables false
set_option linter.unusedSimpArgs false
set_option maxRecDepth 100000
set_option maxHeartbeats 4000000
namespace Go.Proofs.Ytbjjjapdioegpaa
open Go Go.X
/-- quorumite/log.Mark -/
theorem Mark_fn (p : Int) (M : Hp) : FnC Try.prog 17 #[.int .u32 p] M (fun v M' => v = .int .u8 (markB p).toNat ∧ M = M') := by
  refine FnC.intro Try.func17 rfl 7 rfl (by simp) (fun z => ?_)
  refine TC.env (E' := [(0, _)]) (Sub.cons rfl (Sub.nil _)) ?_
  refine TC.seq ?_
  refine TC.region ?_
  refine TL.val rfl rfl (Nat.le_of_ble_eq_true rfl) (Val.assign rfl) ?_
  refine TL.nil ?_
  refine AtX.then ?_
  refine TC.seq ?_
  refine TC.seq ?_
  refine TC.region ?_
  refine TL.val rfl rfl (Nat.le_of_ble_eq_true rfl) (Val.move rfl) ?_
  refine TL.val rfl rfl (Nat.le_of_ble_eq_true rfl) (Val.gtr rfl rfl) ?_
  refine TL.nil ?_
  refine AtX.then ?_
  refine TC.env (E' := [(0, _), (2, _), (4, _)]) (Sub.cons rfl (Sub.cons rfl (Sub.cons rfl (Sub.nil _)))) ?_
  first | refine TC.condP rfl (fun c1 => ?_) (fun c1 => ?_) | refine TC.condN rfl (fun c1 => ?_) (fun c1 => ?_) | refine TC.condB rfl (fun c1 => ?_) (fun c1 => ?_) | refine TC.cond rfl (fun c1 => ?_) (fun c1 => ?_)
  · skip
    refine TC.env (E' := [(0, _), (2, _)]) (Sub.cons rfl (Sub.cons rfl (Sub.nil _))) ?_
    refine TC.seq ?_
    refine TC.region ?_
    refine TL.val rfl rfl (Nat.le_of_ble_eq_true rfl) (Val.assign rfl) ?_
    refine TL.nil ?_
    refine AtX.then ?_
    refine TC.env (E' := [(0, _), (2, _)]) (Sub.cons rfl (Sub.cons rfl (Sub.nil _))) ?_
    refine TC.ret1 (fn := Try.f17) (fun _ _ h => h) rfl (RV.tmp rfl) (fun _ h => h) ?_
    refine ⟨?_, rfl⟩; unfold markB; first | rw [if_pos (by omega)]; rfl | rw [if_neg (by omega)]
  · skip
    refine TC.env (E' := [(0, _), (2, _)]) (Sub.cons rfl (Sub.cons rfl (Sub.nil _))) ?_
    refine TC.skip ?_
    refine AtX.then ?_
    refine TC.env (E' := [(0, _), (2, _)]) (Sub.cons rfl (Sub.cons rfl (Sub.nil _))) ?_
    refine TC.seq ?_
    refine TC.region ?_
    refine TL.val rfl rfl (Nat.le_of_ble_eq_true rfl) (Val.move rfl) ?_
    refine TL.val rfl rfl (Nat.le_of_ble_eq_true rfl) (Val.convI rfl iu22 in5 w_b8) ?_
    refine TL.val rfl rfl (Nat.le_of_ble_eq_true rfl) (Val.assign rfl) ?_
    refine TL.nil ?_
    refine AtX.then ?_
    refine TC.env (E' := [(2, _)]) (Sub.cons rfl (Sub.nil _)) ?_
    refine TC.ret1 (fn := Try.f17) (fun _ _ h => h) rfl (RV.tmp rfl) (fun _ h => h) ?_
    refine ⟨?_, rfl⟩; unfold markB; first | rw [if_pos (by omega)]; rfl | rw [if_neg (by omega)]

/-- quorumite/log.May -/
theorem May_fn (p pl kd : Int) (A : Option Addr) (n c : Nat) (M : Hp) : FnC Try.prog 14 #[.agg #[.int .u32 p, .int .i64 pl, .int .i64 kd, .slice A n c]] M (fun v M' => v = .bool (mayC p pl kd n) ∧ M = M') := by
  refine FnC.intro Try.func14 rfl 37 rfl (by simp) (fun z => ?_)
  refine TC.env (E' := [(0, _)]) (Sub.cons rfl (Sub.nil _)) ?_
  refine TC.seq ?_
  refine TC.region ?_
  refine TL.does (some 1) rfl rfl rfl (Does.box rfl rfl) ?_
  rintro _ _ ⟨b1, rfl, rfl⟩
  refine TL.val rfl rfl (Nat.le_of_ble_eq_true rfl) (Val.assign rfl) ?_
  refine TL.nil ?_
  refine AtX.then ?_
  refine TC.env (E' := [(1, _), (2, _)]) (Sub.cons rfl (Sub.cons rfl (Sub.nil _))) ?_
  refine TC.seq ?_
  refine TC.region ?_
  refine TL.val rfl rfl (Nat.le_of_ble_eq_true rfl) (Val.fieldAddr rfl fl31_0 sz22 rfl) ?_
  first
    | refine TL.val rfl rfl (Nat.le_of_ble_eq_true rfl) (Val.load 0 rfl ag22 rfl rfl) ?_
    | refine TL.val rfl rfl (Nat.le_of_ble_eq_true rfl) (Val.load 1 rfl ag22 rfl rfl) ?_
    | refine TL.val rfl rfl (Nat.le_of_ble_eq_true rfl) (Val.load 2 rfl ag22 rfl rfl) ?_
    | refine TL.val rfl rfl (Nat.le_of_ble_eq_true rfl) (Val.load 3 rfl ag22 rfl rfl) ?_
    | refine TL.val rfl rfl (Nat.le_of_ble_eq_true rfl) (Val.load 4 rfl ag22 rfl rfl) ?_
    | refine TL.val rfl rfl (Nat.le_of_ble_eq_true rfl) (Val.load 5 rfl ag22 rfl rfl) ?_
  refine TL.val rfl rfl (Nat.le_of_ble_eq_true rfl) (Val.geq rfl rfl) ?_
  refine TL.val rfl rfl (Nat.le_of_ble_eq_true rfl) (Val.move rfl) ?_
  refine TL.gen (fun g2 hg2 => ?_)
  refine TL.gval rfl rfl (Nat.le_of_ble_eq_true rfl) rfl (Nat.le_of_ble_eq_true rfl) rfl (fun hg => by subst hg; exact (Val.fieldAddr rfl fl31_0 sz22 rfl)) ?_
  first
    | refine TL.gval rfl rfl (Nat.le_of_ble_eq_true rfl) rfl (Nat.le_of_ble_eq_true rfl) rfl (fun hg => by subst hg; exact (Val.load 0 rfl ag22 rfl rfl)) ?_
    | refine TL.gval rfl rfl (Nat.le_of_ble_eq_true rfl) rfl (Nat.le_of_ble_eq_true rfl) rfl (fun hg => by subst hg; exact (Val.load 1 rfl ag22 rfl rfl)) ?_
    | refine TL.gval rfl rfl (Nat.le_of_ble_eq_true rfl) rfl (Nat.le_of_ble_eq_true rfl) rfl (fun hg => by subst hg; exact (Val.load 2 rfl ag22 rfl rfl)) ?_
    | refine TL.gval rfl rfl (Nat.le_of_ble_eq_true rfl) rfl (Nat.le_of_ble_eq_true rfl) rfl (fun hg => by subst hg; exact (Val.load 3 rfl ag22 rfl rfl)) ?_
    | refine TL.gval rfl rfl (Nat.le_of_ble_eq_true rfl) rfl (Nat.le_of_ble_eq_true rfl) rfl (fun hg => by subst hg; exact (Val.load 4 rfl ag22 rfl rfl)) ?_
    | refine TL.gval rfl rfl (Nat.le_of_ble_eq_true rfl) rfl (Nat.le_of_ble_eq_true rfl) rfl (fun hg => by subst hg; exact (Val.load 5 rfl ag22 rfl rfl)) ?_
  refine TL.gval rfl rfl (Nat.le_of_ble_eq_true rfl) rfl (Nat.le_of_ble_eq_true rfl) rfl (fun hg => by subst hg; exact (Val.leq rfl rfl)) ?_
  first
    | refine TL.val rfl rfl (Nat.le_of_ble_eq_true rfl) (Val.pickAnd rfl rfl rfl) ?_
    | refine TL.val rfl rfl (Nat.le_of_ble_eq_true rfl) (Val.pickOr rfl rfl rfl) ?_
    | refine TL.val rfl rfl (Nat.le_of_ble_eq_true rfl) (Val.pick rfl rfl rfl) ?_
  refine TL.val rfl rfl (Nat.le_of_ble_eq_true rfl) (Val.move rfl) ?_
  refine TL.gen (fun g3 hg3 => ?_)
  refine TL.gval rfl rfl (Nat.le_of_ble_eq_true rfl) rfl (Nat.le_of_ble_eq_true rfl) rfl (fun hg => by subst hg; exact (Val.fieldAddr rfl fl31_1 sz3 rfl)) ?_
  first
    | refine TL.gval rfl rfl (Nat.le_of_ble_eq_true rfl) rfl (Nat.le_of_ble_eq_true rfl) rfl (fun hg => by subst hg; exact (Val.load 0 rfl ag3 rfl rfl)) ?_
    | refine TL.gval rfl rfl (Nat.le_of_ble_eq_true rfl) rfl (Nat.le_of_ble_eq_true rfl) rfl (fun hg => by subst hg; exact (Val.load 1 rfl ag3 rfl rfl)) ?_
    | refine TL.gval rfl rfl (Nat.le_of_ble_eq_true rfl) rfl (Nat.le_of_ble_eq_true rfl) rfl (fun hg => by subst hg; exact (Val.load 2 rfl ag3 rfl rfl)) ?_
    | refine TL.gval rfl rfl (Nat.le_of_ble_eq_true rfl) rfl (Nat.le_of_ble_eq_true rfl) rfl (fun hg => by subst hg; exact (Val.load 3 rfl ag3 rfl rfl)) ?_
    | refine TL.gval rfl rfl (Nat.le_of_ble_eq_true rfl) rfl (Nat.le_of_ble_eq_true rfl) rfl (fun hg => by subst hg; exact (Val.load 4 rfl ag3 rfl rfl)) ?_
    | refine TL.gval rfl rfl (Nat.le_of_ble_eq_true rfl) rfl (Nat.le_of_ble_eq_true rfl) rfl (fun hg => by subst hg; exact (Val.load 5 rfl ag3 rfl rfl)) ?_
  refine TL.gval rfl rfl (Nat.le_of_ble_eq_true rfl) rfl (Nat.le_of_ble_eq_true rfl) rfl (fun hg => by subst hg; exact (Val.geq rfl rfl)) ?_
  first
    | refine TL.val rfl rfl (Nat.le_of_ble_eq_true rfl) (Val.pickAnd rfl rfl rfl) ?_
    | refine TL.val rfl rfl (Nat.le_of_ble_eq_true rfl) (Val.pickOr rfl rfl rfl) ?_
    | refine TL.val rfl rfl (Nat.le_of_ble_eq_true rfl) (Val.pick rfl rfl rfl) ?_
  refine TL.val rfl rfl (Nat.le_of_ble_eq_true rfl) (Val.move rfl) ?_
  refine TL.gen (fun g4 hg4 => ?_)
  refine TL.gval rfl rfl (Nat.le_of_ble_eq_true rfl) rfl (Nat.le_of_ble_eq_true rfl) rfl (fun hg => by subst hg; exact (Val.fieldAddr rfl fl31_1 sz3 rfl)) ?_
  first
    | refine TL.gval rfl rfl (Nat.le_of_ble_eq_true rfl) rfl (Nat.le_of_ble_eq_true rfl) rfl (fun hg => by subst hg; exact (Val.load 0 rfl ag3 rfl rfl)) ?_
    | refine TL.gval rfl rfl (Nat.le_of_ble_eq_true rfl) rfl (Nat.le_of_ble_eq_true rfl) rfl (fun hg => by subst hg; exact (Val.load 1 rfl ag3 rfl rfl)) ?_
    | refine TL.gval rfl rfl (Nat.le_of_ble_eq_true rfl) rfl (Nat.le_of_ble_eq_true rfl) rfl (fun hg => by subst hg; exact (Val.load 2 rfl ag3 rfl rfl)) ?_
    | refine TL.gval rfl rfl (Nat.le_of_ble_eq_true rfl) rfl (Nat.le_of_ble_eq_true rfl) rfl (fun hg => by subst hg; exact (Val.load 3 rfl ag3 rfl rfl)) ?_
    | refine TL.gval rfl rfl (Nat.le_of_ble_eq_true rfl) rfl (Nat.le_of_ble_eq_true rfl) rfl (fun hg => by subst hg; exact (Val.load 4 rfl ag3 rfl rfl)) ?_
    | refine TL.gval rfl rfl (Nat.le_of_ble_eq_true rfl) rfl (Nat.le_of_ble_eq_true rfl) rfl (fun hg => by subst hg; exact (Val.load 5 rfl ag3 rfl rfl)) ?_
  refine TL.gval rfl rfl (Nat.le_of_ble_eq_true rfl) rfl (Nat.le_of_ble_eq_true rfl) rfl (fun hg => by subst hg; exact (Val.leq rfl rfl)) ?_
  first
    | refine TL.val rfl rfl (Nat.le_of_ble_eq_true rfl) (Val.pickAnd rfl rfl rfl) ?_
    | refine TL.val rfl rfl (Nat.le_of_ble_eq_true rfl) (Val.pickOr rfl rfl rfl) ?_
    | refine TL.val rfl rfl (Nat.le_of_ble_eq_true rfl) (Val.pick rfl rfl rfl) ?_
  refine TL.val rfl rfl (Nat.le_of_ble_eq_true rfl) (Val.move rfl) ?_
  refine TL.gen (fun g5 hg5 => ?_)
  refine TL.gval rfl rfl (Nat.le_of_ble_eq_true rfl) rfl (Nat.le_of_ble_eq_true rfl) rfl (fun hg => by subst hg; exact (Val.fieldAddr rfl fl31_2 sz3 rfl)) ?_
  first
    | refine TL.gval rfl rfl (Nat.le_of_ble_eq_true rfl) rfl (Nat.le_of_ble_eq_true rfl) rfl (fun hg => by subst hg; exact (Val.load 0 rfl ag3 rfl rfl)) ?_
    | refine TL.gval rfl rfl (Nat.le_of_ble_eq_true rfl) rfl (Nat.le_of_ble_eq_true rfl) rfl (fun hg => by subst hg; exact (Val.load 1 rfl ag3 rfl rfl)) ?_
    | refine TL.gval rfl rfl (Nat.le_of_ble_eq_true rfl) rfl (Nat.le_of_ble_eq_true rfl) rfl (fun hg => by subst hg; exact (Val.load 2 rfl ag3 rfl rfl)) ?_
    | refine TL.gval rfl rfl (Nat.le_of_ble_eq_true rfl) rfl (Nat.le_of_ble_eq_true rfl) rfl (fun hg => by subst hg; exact (Val.load 3 rfl ag3 rfl rfl)) ?_
    | refine TL.gval rfl rfl (Nat.le_of_ble_eq_true rfl) rfl (Nat.le_of_ble_eq_true rfl) rfl (fun hg => by subst hg; exact (Val.load 4 rfl ag3 rfl rfl)) ?_
    | refine TL.gval rfl rfl (Nat.le_of_ble_eq_true rfl) rfl (Nat.le_of_ble_eq_true rfl) rfl (fun hg => by subst hg; exact (Val.load 5 rfl ag3 rfl rfl)) ?_
  refine TL.gval rfl rfl (Nat.le_of_ble_eq_true rfl) rfl (Nat.le_of_ble_eq_true rfl) rfl (fun hg => by subst hg; exact (Val.geq rfl rfl)) ?_
  first
    | refine TL.val rfl rfl (Nat.le_of_ble_eq_true rfl) (Val.pickAnd rfl rfl rfl) ?_
    | refine TL.val rfl rfl (Nat.le_of_ble_eq_true rfl) (Val.pickOr rfl rfl rfl) ?_
    | refine TL.val rfl rfl (Nat.le_of_ble_eq_true rfl) (Val.pick rfl rfl rfl) ?_
  refine TL.val rfl rfl (Nat.le_of_ble_eq_true rfl) (Val.move rfl) ?_
  refine TL.gen (fun g6 hg6 => ?_)
  refine TL.gval rfl rfl (Nat.le_of_ble_eq_true rfl) rfl (Nat.le_of_ble_eq_true rfl) rfl (fun hg => by subst hg; exact (Val.fieldAddr rfl fl31_2 sz3 rfl)) ?_
  first
    | refine TL.gval rfl rfl (Nat.le_of_ble_eq_true rfl) rfl (Nat.le_of_ble_eq_true rfl) rfl (fun hg => by subst hg; exact (Val.load 0 rfl ag3 rfl rfl)) ?_
    | refine TL.gval rfl rfl (Nat.le_of_ble_eq_true rfl) rfl (Nat.le_of_ble_eq_true rfl) rfl (fun hg => by subst hg; exact (Val.load 1 rfl ag3 rfl rfl)) ?_
    | refine TL.gval rfl rfl (Nat.le_of_ble_eq_true rfl) rfl (Nat.le_of_ble_eq_true rfl) rfl (fun hg => by subst hg; exact (Val.load 2 rfl ag3 rfl rfl)) ?_
    | refine TL.gval rfl rfl (Nat.le_of_ble_eq_true rfl) rfl (Nat.le_of_ble_eq_true rfl) rfl (fun hg => by subst hg; exact (Val.load 3 rfl ag3 rfl rfl)) ?_
    | refine TL.gval rfl rfl (Nat.le_of_ble_eq_true rfl) rfl (Nat.le_of_ble_eq_true rfl) rfl (fun hg => by subst hg; exact (Val.load 4 rfl ag3 rfl rfl)) ?_
    | refine TL.gval rfl rfl (Nat.le_of_ble_eq_true rfl) rfl (Nat.le_of_ble_eq_true rfl) rfl (fun hg => by subst hg; exact (Val.load 5 rfl ag3 rfl rfl)) ?_
  refine TL.gval rfl rfl (Nat.le_of_ble_eq_true rfl) rfl (Nat.le_of_ble_eq_true rfl) rfl (fun hg => by subst hg; exact (Val.leq rfl rfl)) ?_
  first
    | refine TL.val rfl rfl (Nat.le_of_ble_eq_true rfl) (Val.pickAnd rfl rfl rfl) ?_
    | refine TL.val rfl rfl (Nat.le_of_ble_eq_true rfl) (Val.pickOr rfl rfl rfl) ?_
    | refine TL.val rfl rfl (Nat.le_of_ble_eq_true rfl) (Val.pick rfl rfl rfl) ?_
  refine TL.val rfl rfl (Nat.le_of_ble_eq_true rfl) (Val.move rfl) ?_
  refine TL.gen (fun g7 hg7 => ?_)
  refine TL.gval rfl rfl (Nat.le_of_ble_eq_true rfl) rfl (Nat.le_of_ble_eq_true rfl) rfl (fun hg => by subst hg; exact (Val.fieldAddr rfl fl31_3 sz23 rfl)) ?_
  first
    | refine TL.gval rfl rfl (Nat.le_of_ble_eq_true rfl) rfl (Nat.le_of_ble_eq_true rfl) rfl (fun hg => by subst hg; exact (Val.load 0 rfl ag23 rfl rfl)) ?_
    | refine TL.gval rfl rfl (Nat.le_of_ble_eq_true rfl) rfl (Nat.le_of_ble_eq_true rfl) rfl (fun hg => by subst hg; exact (Val.load 1 rfl ag23 rfl rfl)) ?_
    | refine TL.gval rfl rfl (Nat.le_of_ble_eq_true rfl) rfl (Nat.le_of_ble_eq_true rfl) rfl (fun hg => by subst hg; exact (Val.load 2 rfl ag23 rfl rfl)) ?_
    | refine TL.gval rfl rfl (Nat.le_of_ble_eq_true rfl) rfl (Nat.le_of_ble_eq_true rfl) rfl (fun hg => by subst hg; exact (Val.load 3 rfl ag23 rfl rfl)) ?_
    | refine TL.gval rfl rfl (Nat.le_of_ble_eq_true rfl) rfl (Nat.le_of_ble_eq_true rfl) rfl (fun hg => by subst hg; exact (Val.load 4 rfl ag23 rfl rfl)) ?_
    | refine TL.gval rfl rfl (Nat.le_of_ble_eq_true rfl) rfl (Nat.le_of_ble_eq_true rfl) rfl (fun hg => by subst hg; exact (Val.load 5 rfl ag23 rfl rfl)) ?_
  refine TL.gval rfl rfl (Nat.le_of_ble_eq_true rfl) rfl (Nat.le_of_ble_eq_true rfl) rfl (fun hg => by subst hg; exact (Val.lenSl rfl rfl sl23)) ?_
  refine TL.gval rfl rfl (Nat.le_of_ble_eq_true rfl) rfl (Nat.le_of_ble_eq_true rfl) rfl (fun hg => by subst hg; exact (Val.leq rfl rfl)) ?_
  first
    | refine TL.val rfl rfl (Nat.le_of_ble_eq_true rfl) (Val.pickAnd rfl rfl rfl) ?_
    | refine TL.val rfl rfl (Nat.le_of_ble_eq_true rfl) (Val.pickOr rfl rfl rfl) ?_
    | refine TL.val rfl rfl (Nat.le_of_ble_eq_true rfl) (Val.pick rfl rfl rfl) ?_
  refine TL.val rfl rfl (Nat.le_of_ble_eq_true rfl) (Val.assign rfl) ?_
  refine TL.nil ?_
  refine AtX.then ?_
  refine TC.env (E' := [(2, _)]) (Sub.cons rfl (Sub.nil _)) ?_
  refine TC.ret1 (fn := Try.f14) (fun _ _ h => h) rfl (RV.tmp rfl) (ro_tail ro_refl) ?_
  refine ⟨?_, rfl⟩
  subst_vars
  rfl

/-- quorumite/log.Sum -/
theorem Sum_fn (l : List UInt8) (A : Option Addr) (n c : Nat) (M : Hp) (hA : RdS M A (bv l)) (hn : n = l.length) (hl : l.length ≤ 1000) : FnC Try.prog 19 #[.slice A n c] M (fun v M' => v = .int .u32 (sum18 l : Nat) ∧ M = M') := by
  subst hn
  refine FnC.intro Try.func19 rfl 24 rfl (by simp) (fun z => ?_)
  refine TC.env (E' := [(0, _)]) (Sub.cons rfl (Sub.nil _)) ?_
  refine TC.seq ?_
  refine TC.region ?_
  refine TL.val rfl rfl (Nat.le_of_ble_eq_true rfl) (Val.assign rfl) ?_
  refine TL.nil ?_
  refine AtX.then ?_
  refine TC.seq ?_
  refine TC.region ?_
  refine TL.val rfl rfl (Nat.le_of_ble_eq_true rfl) (Val.assign rfl) ?_
  refine TL.nil ?_
  refine AtX.then ?_
  refine TC.seq ?_
  refine TC.seq ?_
  refine TC.region ?_
  refine TL.val rfl rfl (Nat.le_of_ble_eq_true rfl) (Val.move rfl) ?_
  refine TL.val rfl rfl (Nat.le_of_ble_eq_true rfl) (Val.lenSl rfl rfl sl23) ?_
  refine TL.val rfl rfl (Nat.le_of_ble_eq_true rfl) (Val.move rfl) ?_
  refine TL.nil ?_
  refine AtX.then ?_
  refine TC.env (E' := [(2, _), (3, _), (6, _), (7, _), (8, _)]) (Sub.cons rfl (Sub.cons rfl (Sub.cons rfl (Sub.cons rfl (Sub.cons rfl (Sub.nil _)))))) ?_
  refine TC.block ?_
  refine TC.loop (ι := Nat) (fun k => [(3, .int .u32 (sumTo l k : Nat)), (6, .slice A l.length c), (7, .int .i64 l.length), (8, .int .i64 (k : Nat))]) (fun _ => M) (fun k => k ≤ l.length) (fun k => l.length - k) 0 ?_ (Sub.cons rfl (Sub.cons rfl (Sub.cons rfl (Sub.cons rfl (Sub.nil _))))) (fun _ h => h) ?_
  · exact Nat.zero_le _
  intro k hk
  refine TC.seq ?_
  refine TC.region ?_
  refine TL.val rfl rfl (Nat.le_of_ble_eq_true rfl) (Val.lss rfl rfl) ?_
  refine TL.nil ?_
  refine AtX.then ?_
  refine TC.seq ?_
  first | refine TC.condP rfl (fun c1 => ?_) (fun c1 => ?_) | refine TC.condN rfl (fun c1 => ?_) (fun c1 => ?_) | refine TC.condB rfl (fun c1 => ?_) (fun c1 => ?_) | refine TC.cond rfl (fun c1 => ?_) (fun c1 => ?_)
  · skip
    refine TC.skip ?_
    refine AtX.then ?_
    refine TC.seq ?_
    refine TC.block ?_
    refine TC.seq ?_
    have hlt : k < l.length := by omega
    obtain ⟨b, o, rfl, hR⟩ := RdS.get hA (by simp; omega)
    have hB := sumTo_bd l k (by omega)
    have hT := term_bd (l.getD k 0) k (by omega)
    have hc : (l.getD k 0).toNat < 256 := UInt8.toNat_lt _
    have hT2 : ((k : Int) + 1) * (((l.getD k 0).toNat : Int) + 1) = (((k + 1) * ((l.getD k 0).toNat + 1) : Nat) : Int) := by push_cast; rfl
    refine TC.region ?_
    refine TL.val rfl rfl (Nat.le_of_ble_eq_true rfl) (Val.move rfl) ?_
    refine TL.val rfl rfl (Nat.le_of_ble_eq_true rfl) (Val.indexAddr (i := k) rfl rfl sl23 sz5 rfl hlt rfl) ?_
    refine TL.val rfl rfl (Nat.le_of_ble_eq_true rfl) (Val.loadB k rfl ag5 hR (by simp) hlt) ?_
    refine TL.val rfl rfl (Nat.le_of_ble_eq_true rfl) (Val.assign rfl) ?_
    refine TL.val rfl rfl (Nat.le_of_ble_eq_true rfl) (Val.assign rfl) ?_
    refine TL.nil ?_
    refine AtX.then ?_
    refine TC.region ?_
    refine TL.val rfl rfl (Nat.le_of_ble_eq_true rfl) (Val.move rfl) ?_
    refine TL.val rfl rfl (Nat.le_of_ble_eq_true rfl) (Val.move rfl) ?_
    first
      | refine TL.val rfl rfl (Nat.le_of_ble_eq_true rfl) (Val.add rfl rfl (w_i64 (by omega) (by omega))) ?_
      | refine TL.val rfl rfl (Nat.le_of_ble_eq_true rfl) (Val.add rfl rfl rfl) ?_
    first
      | refine TL.val rfl rfl (Nat.le_of_ble_eq_true rfl) (Val.convI rfl iu3 in22 (w_u32 (by omega) (by omega))) ?_
      | refine TL.val rfl rfl (Nat.le_of_ble_eq_true rfl) (Val.convI rfl iu3 in22 rfl) ?_
    refine TL.val rfl rfl (Nat.le_of_ble_eq_true rfl) (Val.move rfl) ?_
    first
      | refine TL.val rfl rfl (Nat.le_of_ble_eq_true rfl) (Val.convI rfl iu5 in22 (w_u32 (by omega) (by omega))) ?_
      | refine TL.val rfl rfl (Nat.le_of_ble_eq_true rfl) (Val.convI rfl iu5 in22 rfl) ?_
    first
      | refine TL.val rfl rfl (Nat.le_of_ble_eq_true rfl) (Val.add rfl rfl (w_u32 (by omega) (by omega))) ?_
      | refine TL.val rfl rfl (Nat.le_of_ble_eq_true rfl) (Val.add rfl rfl rfl) ?_
    refine TL.val rfl rfl (Nat.le_of_ble_eq_true rfl) (Val.mul rfl rfl (w_u32 (by omega) (by omega))) ?_
    refine TL.val rfl rfl (Nat.le_of_ble_eq_true rfl) (Val.add rfl rfl (w_u32 (by omega) (by omega))) ?_
    refine TL.val rfl rfl (Nat.le_of_ble_eq_true rfl) (Val.assign rfl) ?_
    refine TL.nil ?_
    refine AtX.blk ?_
    refine AtX.then ?_
    refine TC.region ?_
    first
      | refine TL.val rfl rfl (Nat.le_of_ble_eq_true rfl) (Val.add rfl rfl (w_i64 (by omega) (by omega))) ?_
      | refine TL.val rfl rfl (Nat.le_of_ble_eq_true rfl) (Val.add rfl rfl rfl) ?_
    refine TL.val rfl rfl (Nat.le_of_ble_eq_true rfl) (Val.move rfl) ?_
    refine TL.nil ?_
    refine AtX.round (k + 1) ?_ ?_ (Sub.cons rfl (Sub.cons rfl (Sub.cons rfl (Sub.cons rfl (Sub.nil _))))) (fun _ h => h)
    · omega
    · omega
  · skip
    refine TC.exit ?_
    refine AtX.seqX ?_
    refine AtX.seqX ?_
    refine AtX.hit ?_
    refine AtX.then ?_
    refine TC.env (E' := [(3, _)]) (Sub.cons rfl (Sub.nil _)) ?_
    refine TC.seq ?_
    refine TC.region ?_
    refine TL.val rfl rfl (Nat.le_of_ble_eq_true rfl) (Val.move rfl) ?_
    refine TL.val rfl rfl (Nat.le_of_ble_eq_true rfl) (Val.assign rfl) ?_
    refine TL.nil ?_
    refine AtX.then ?_
    refine TC.env (E' := [(2, _)]) (Sub.cons rfl (Sub.nil _)) ?_
    refine TC.ret1 (fn := Try.f19) (fun _ _ h => h) rfl (RV.tmp rfl) (fun _ h => h) ?_
    refine ⟨?_, rfl⟩
    have : k = l.length := by omega
    subst this; rfl

/-- quorumite/sip.Put -/
theorem sipPut_fn (n : Int) (M : Hp) : FnC Try.prog 22 #[.int .u64 n] M (fun v M' => ∃ b c sp, v = .slice (some ⟨b, 0, none⟩) 8 c ∧ 8 + sp.length = c ∧ M' = (b, row 5 (bv (put8 n) ++ sp)) :: M) := by
  refine FnC.intro Try.func22 rfl 19 rfl (by simp) (fun z => ?_)
  refine TC.env (E' := [(0, _)]) (Sub.cons rfl (Sub.nil _)) ?_
  refine TC.seq ?_
  refine TC.region ?_
  refine TL.val rfl rfl (Nat.le_of_ble_eq_true rfl) (Val.assign rfl) ?_
  refine TL.nil ?_
  refine AtX.then ?_
  refine TC.seq ?_
  refine TC.region ?_
  refine TL.val rfl rfl (Nat.le_of_ble_eq_true rfl) (Val.assign rfl) ?_
  refine TL.nil ?_
  refine AtX.then ?_
  refine TC.seq ?_
  refine TC.seq ?_
  refine TC.region ?_
  refine TL.val rfl rfl (Nat.le_of_ble_eq_true rfl) (Val.move rfl) ?_
  refine TL.nil ?_
  refine AtX.then ?_
  refine TC.block ?_
  refine TC.loop (ι := (Nat × Sl)) (fun i => [(0, .int .u64 n), (3, .slice (slA i.2) i.1 (slC i.2)), (5, .int .i64 (i.1 : Nat))]) (fun i => slH i.2 5 (bv (pb n i.1)) ++ M) (fun i => i.1 ≤ 8 ∧ slOk i.2 1 i.1 (bv (pb n i.1))) (fun i => 8 - i.1) (0, none) ?_ (Sub.cons rfl (Sub.cons rfl (Sub.cons rfl (Sub.nil _)))) (fun _ h => h) ?_
  · exact ⟨by omega, slOk_nil 1⟩
  rintro ⟨k, σ⟩ ⟨hk, hok⟩
  dsimp only at hk hok ⊢
  refine TC.seq ?_
  refine TC.region ?_
  refine TL.val rfl rfl (Nat.le_of_ble_eq_true rfl) (Val.lss rfl rfl) ?_
  refine TL.nil ?_
  refine AtX.then ?_
  refine TC.seq ?_
  first | refine TC.condP rfl (fun c1 => ?_) (fun c1 => ?_) | refine TC.condN rfl (fun c1 => ?_) (fun c1 => ?_) | refine TC.condB rfl (fun c1 => ?_) (fun c1 => ?_) | refine TC.cond rfl (fun c1 => ?_) (fun c1 => ?_)
  · skip
    refine TC.skip ?_
    refine AtX.then ?_
    refine TC.seq ?_
    refine TC.block ?_
    refine TC.seq ?_
    refine TC.region ?_
    refine TL.val rfl rfl (Nat.le_of_ble_eq_true rfl) (Val.move rfl) ?_
    refine TL.val rfl rfl (Nat.le_of_ble_eq_true rfl) (Val.assign rfl) ?_
    refine TL.nil ?_
    refine AtX.then ?_
    refine TC.region ?_
    refine TL.val rfl rfl (Nat.le_of_ble_eq_true rfl) (Val.move rfl) ?_
    refine TL.val rfl rfl (Nat.le_of_ble_eq_true rfl) (Val.move rfl) ?_
    refine TL.val rfl rfl (Nat.le_of_ble_eq_true rfl) (Val.move rfl) ?_
    first
      | refine TL.val rfl rfl (Nat.le_of_ble_eq_true rfl) (Val.mul rfl rfl (w_i64 (by omega) (by omega))) ?_
      | refine TL.val rfl rfl (Nat.le_of_ble_eq_true rfl) (Val.mul rfl rfl rfl) ?_
    first
      | refine TL.val rfl rfl (Nat.le_of_ble_eq_true rfl) (Val.convI rfl iu3 in46 (w_u64 (by omega) (by omega))) ?_
      | refine TL.val rfl rfl (Nat.le_of_ble_eq_true rfl) (Val.convI rfl iu3 in46 rfl) ?_
    refine TL.val rfl rfl (Nat.le_of_ble_eq_true rfl) (Val.shr rfl rfl (by omega) (shr_val (by omega))) ?_
    refine TL.val rfl rfl (Nat.le_of_ble_eq_true rfl) (Val.convI rfl iu55 in5 w_b8) ?_
    refine TL.does (some 15) rfl rfl rfl (Does.buildSlice sl23 sz5 ze5 (by decide) (by decide) rfl rfl rfl) ?_
    rintro _ _ ⟨b1, rfl, rfl⟩
    refine TL.does (some 16) rfl rfl rfl (Does.appendS (xs := bv (pb n k)) (ys := bv [byteAt n k]) σ M (ro_tail ro_refl) rfl rfl sl23 sz5 by5 ze5 rfl hok (.inl ⟨_, _, rfl, ⟨5, us23⟩, .some (Rd.get (i := 0) rfl rfl)⟩) rfl (bv_one _) (by omega) (by omega)) ?_
    rintro _ _ ⟨σ1, rfl, hok1, rfl⟩
    refine TL.val rfl rfl (Nat.le_of_ble_eq_true rfl) (Val.assign rfl) ?_
    refine TL.nil ?_
    refine AtX.blk ?_
    refine AtX.then ?_
    refine TC.region ?_
    first
      | refine TL.val rfl rfl (Nat.le_of_ble_eq_true rfl) (Val.add rfl rfl (w_i64 (by omega) (by omega))) ?_
      | refine TL.val rfl rfl (Nat.le_of_ble_eq_true rfl) (Val.add rfl rfl rfl) ?_
    refine TL.val rfl rfl (Nat.le_of_ble_eq_true rfl) (Val.move rfl) ?_
    refine TL.nil ?_
    refine AtX.round (i := (k, σ)) (k + 1, σ1) ?_ ?_ (Sub.cons rfl (Sub.cons rfl (Sub.cons rfl (Sub.nil _)))) (fun w h => by simp only [pb, bv_append]; exact h)
    · exact ⟨by omega, by simp only [pb, bv_append]; exact hok1⟩
    · show 8 - (k + 1) < 8 - k; omega
  · skip
    refine TC.exit ?_
    refine AtX.seqX ?_
    refine AtX.seqX ?_
    refine AtX.hit ?_
    refine AtX.then ?_
    refine TC.env (E' := [(3, _)]) (Sub.cons rfl (Sub.nil _)) ?_
    refine TC.seq ?_
    refine TC.region ?_
    refine TL.val rfl rfl (Nat.le_of_ble_eq_true rfl) (Val.move rfl) ?_
    refine TL.val rfl rfl (Nat.le_of_ble_eq_true rfl) (Val.assign rfl) ?_
    refine TL.nil ?_
    refine AtX.then ?_
    refine TC.env (E' := [(2, _)]) (Sub.cons rfl (Sub.nil _)) ?_
    refine TC.ret1 (fn := Try.f22) (fun _ _ h => h) rfl (RV.tmp rfl) (fun _ h => h) ?_
    have h8 : k = 8 := by omega
    subst h8
    obtain ⟨b, c, sp, rfl, hc⟩ := hok.some (by omega)
    exact ⟨b, c, sp, rfl, by simpa using hc, rfl⟩

/-- quorumite/sip.Get -/
theorem sipGet_fn (l : List UInt8) (A : Option Addr) (n c : Nat) (o : Nat) (M : Hp) (hA : RdS M A (bv l)) (hn : n = l.length) (hl : l.length ≤ 1000) (ho : o + 8 ≤ l.length) : FnC Try.prog 28 #[.slice A n c, .int .i64 o] M (fun v M' => v = .tuple #[.int .u64 (get8 l o : Nat), .int .i64 0] ∧ M = M') := by
  subst hn
  obtain ⟨b, q, rfl, hR⟩ := RdS.get hA (by simp; omega)
  refine FnC.intro Try.func28 rfl 35 rfl (by simp) (fun z => ?_)
  refine TC.env (E' := [(0, _), (1, _)]) (Sub.cons rfl (Sub.cons rfl (Sub.nil _))) ?_
  refine TC.seq ?_
  refine TC.region ?_
  refine TL.val rfl rfl (Nat.le_of_ble_eq_true rfl) (Val.assign rfl) ?_
  refine TL.val rfl rfl (Nat.le_of_ble_eq_true rfl) (Val.assign rfl) ?_
  refine TL.nil ?_
  refine AtX.then ?_
  refine TC.seq ?_
  refine TC.seq ?_
  refine TC.region ?_
  refine TL.val rfl rfl (Nat.le_of_ble_eq_true rfl) (Val.move rfl) ?_
  refine TL.val rfl rfl (Nat.le_of_ble_eq_true rfl) (Val.lss rfl rfl) ?_
  refine TL.val rfl rfl (Nat.le_of_ble_eq_true rfl) (Val.move rfl) ?_
  refine TL.gen (fun g1 hg1 => ?_)
  refine TL.gval rfl rfl (Nat.le_of_ble_eq_true rfl) rfl (Nat.le_of_ble_eq_true rfl) rfl (fun hg => by subst hg; exact (Val.move rfl)) ?_
  refine TL.gval rfl rfl (Nat.le_of_ble_eq_true rfl) rfl (Nat.le_of_ble_eq_true rfl) rfl (fun hg => by subst hg; exact (Val.move rfl)) ?_
  refine TL.gval rfl rfl (Nat.le_of_ble_eq_true rfl) rfl (Nat.le_of_ble_eq_true rfl) rfl (fun hg => by subst hg; exact (Val.lenSl rfl rfl sl23)) ?_
  first
    | refine TL.gval rfl rfl (Nat.le_of_ble_eq_true rfl) rfl (Nat.le_of_ble_eq_true rfl) rfl (fun hg => by subst hg; exact (Val.sub rfl rfl (w_i64 (by omega) (by omega)))) ?_
    | refine TL.gval rfl rfl (Nat.le_of_ble_eq_true rfl) rfl (Nat.le_of_ble_eq_true rfl) rfl (fun hg => by subst hg; exact (Val.sub rfl rfl rfl)) ?_
  refine TL.gval rfl rfl (Nat.le_of_ble_eq_true rfl) rfl (Nat.le_of_ble_eq_true rfl) rfl (fun hg => by subst hg; exact (Val.gtr rfl rfl)) ?_
  first
    | refine TL.val rfl rfl (Nat.le_of_ble_eq_true rfl) (Val.pickAnd rfl rfl rfl) ?_
    | refine TL.val rfl rfl (Nat.le_of_ble_eq_true rfl) (Val.pickOr rfl rfl rfl) ?_
    | refine TL.val rfl rfl (Nat.le_of_ble_eq_true rfl) (Val.pick rfl rfl rfl) ?_
  refine TL.nil ?_
  refine AtX.then ?_
  refine TC.env (E' := [(0, _), (1, _), (4, _), (5, _), (16, _)]) (Sub.cons rfl (Sub.cons rfl (Sub.cons rfl (Sub.cons rfl (Sub.cons rfl (Sub.nil _)))))) ?_
  first | refine TC.condP rfl (fun c1 => ?_) (fun c1 => ?_) | refine TC.condN rfl (fun c1 => ?_) (fun c1 => ?_) | refine TC.condB rfl (fun c1 => ?_) (fun c1 => ?_) | refine TC.cond rfl (fun c1 => ?_) (fun c1 => ?_)
  · skip
    simp only [Bool.or_eq_true, decide_eq_true_eq] at c1; subst_vars; simp only [decide_eq_true_eq] at c1; omega
  · skip
    refine TC.env (E' := [(0, _), (1, _), (4, _), (5, _)]) (Sub.cons rfl (Sub.cons rfl (Sub.cons rfl (Sub.cons rfl (Sub.nil _))))) ?_
    refine TC.skip ?_
    refine AtX.then ?_
    refine TC.env (E' := [(0, _), (1, _), (4, _), (5, _)]) (Sub.cons rfl (Sub.cons rfl (Sub.cons rfl (Sub.cons rfl (Sub.nil _))))) ?_
    refine TC.seq ?_
    refine TC.region ?_
    refine TL.val rfl rfl (Nat.le_of_ble_eq_true rfl) (Val.assign rfl) ?_
    refine TL.nil ?_
    refine AtX.then ?_
    refine TC.env (E' := [(0, _), (1, _), (4, _), (5, _), (6, _)]) (Sub.cons rfl (Sub.cons rfl (Sub.cons rfl (Sub.cons rfl (Sub.cons rfl (Sub.nil _)))))) ?_
    refine TC.seq ?_
    refine TC.seq ?_
    refine TC.region ?_
    refine TL.val rfl rfl (Nat.le_of_ble_eq_true rfl) (Val.move rfl) ?_
    refine TL.nil ?_
    refine AtX.then ?_
    refine TC.env (E' := [(0, _), (1, _), (4, _), (5, _), (6, _), (17, _)]) (Sub.cons rfl (Sub.cons rfl (Sub.cons rfl (Sub.cons rfl (Sub.cons rfl (Sub.cons rfl (Sub.nil _))))))) ?_
    refine TC.block ?_
    refine TC.loop (ι := Nat) (fun k => [(0, .slice (some ⟨b, q, none⟩) l.length c), (1, .int .i64 o), (6, .int .u64 (getTo l o k : Nat)), (17, .int .i64 (k : Nat))]) (fun _ => M) (fun k => k ≤ 8) (fun k => 8 - k) 0 ?_ (Sub.cons rfl (Sub.cons rfl (Sub.cons rfl (Sub.cons rfl (Sub.nil _))))) (fun _ h => h) ?_
    · exact Nat.zero_le _
    intro k hk
    refine TC.seq ?_
    refine TC.region ?_
    refine TL.val rfl rfl (Nat.le_of_ble_eq_true rfl) (Val.lss rfl rfl) ?_
    refine TL.nil ?_
    refine AtX.then ?_
    refine TC.seq ?_
    first | refine TC.condP rfl (fun c2 => ?_) (fun c2 => ?_) | refine TC.condN rfl (fun c2 => ?_) (fun c2 => ?_) | refine TC.condB rfl (fun c2 => ?_) (fun c2 => ?_) | refine TC.cond rfl (fun c2 => ?_) (fun c2 => ?_)
    · skip
      refine TC.skip ?_
      refine AtX.then ?_
      refine TC.seq ?_
      refine TC.block ?_
      refine TC.seq ?_
      refine TC.region ?_
      refine TL.val rfl rfl (Nat.le_of_ble_eq_true rfl) (Val.move rfl) ?_
      refine TL.val rfl rfl (Nat.le_of_ble_eq_true rfl) (Val.assign rfl) ?_
      refine TL.nil ?_
      refine AtX.then ?_
      have hlt : k < 8 := by omega
      have hB := getTo_lt l o k
      have hc : (l.getD (o + k) 0).toNat < 256 := UInt8.toNat_lt _
      refine TC.region ?_
      refine TL.val rfl rfl (Nat.le_of_ble_eq_true rfl) (Val.move rfl) ?_
      refine TL.val rfl rfl (Nat.le_of_ble_eq_true rfl) (Val.move rfl) ?_
      refine TL.val rfl rfl (Nat.le_of_ble_eq_true rfl) (Val.move rfl) ?_
      refine TL.val rfl rfl (Nat.le_of_ble_eq_true rfl) (Val.move rfl) ?_
      first
        | refine TL.val rfl rfl (Nat.le_of_ble_eq_true rfl) (Val.add rfl rfl (w_i64 (by omega) (by omega))) ?_
        | refine TL.val rfl rfl (Nat.le_of_ble_eq_true rfl) (Val.add rfl rfl rfl) ?_
      refine TL.val rfl rfl (Nat.le_of_ble_eq_true rfl) (Val.indexAddr (i := o + k) rfl rfl sl23 sz5 (by push_cast; rfl) (by omega) rfl) ?_
      refine TL.val rfl rfl (Nat.le_of_ble_eq_true rfl) (Val.loadB (o + k) rfl ag5 hR (by simp) (by omega)) ?_
      first
        | refine TL.val rfl rfl (Nat.le_of_ble_eq_true rfl) (Val.convI rfl iu5 in55 (w_u64 (by omega) (by omega))) ?_
        | refine TL.val rfl rfl (Nat.le_of_ble_eq_true rfl) (Val.convI rfl iu5 in55 rfl) ?_
      refine TL.val rfl rfl (Nat.le_of_ble_eq_true rfl) (Val.move rfl) ?_
      first
        | refine TL.val rfl rfl (Nat.le_of_ble_eq_true rfl) (Val.mul rfl rfl (w_i64 (by omega) (by omega))) ?_
        | refine TL.val rfl rfl (Nat.le_of_ble_eq_true rfl) (Val.mul rfl rfl rfl) ?_
      first
        | refine TL.val rfl rfl (Nat.le_of_ble_eq_true rfl) (Val.convI rfl iu3 in46 (w_u64 (by omega) (by omega))) ?_
        | refine TL.val rfl rfl (Nat.le_of_ble_eq_true rfl) (Val.convI rfl iu3 in46 rfl) ?_
      refine TL.val rfl rfl (Nat.le_of_ble_eq_true rfl) (Val.shl rfl rfl (by omega) (shl_val hlt hc)) ?_
      refine TL.val rfl rfl (Nat.le_of_ble_eq_true rfl) (Val.or rfl rfl (or_add hlt hB hc)) ?_
      refine TL.val rfl rfl (Nat.le_of_ble_eq_true rfl) (Val.assign rfl) ?_
      refine TL.nil ?_
      refine AtX.blk ?_
      refine AtX.then ?_
      refine TC.region ?_
      first
        | refine TL.val rfl rfl (Nat.le_of_ble_eq_true rfl) (Val.add rfl rfl (w_i64 (by omega) (by omega))) ?_
        | refine TL.val rfl rfl (Nat.le_of_ble_eq_true rfl) (Val.add rfl rfl rfl) ?_
      refine TL.val rfl rfl (Nat.le_of_ble_eq_true rfl) (Val.move rfl) ?_
      refine TL.nil ?_
      refine AtX.round (k + 1) ?_ ?_ (Sub.cons rfl (Sub.cons rfl (Sub.cons rfl (Sub.cons rfl (Sub.nil _))))) (fun _ h => h)
      · omega
      · omega
    · skip
      refine TC.exit ?_
      refine AtX.seqX ?_
      refine AtX.seqX ?_
      refine AtX.hit ?_
      refine AtX.then ?_
      refine TC.env (E' := [(6, _)]) (Sub.cons rfl (Sub.nil _)) ?_
      refine TC.seq ?_
      refine TC.region ?_
      refine TL.val rfl rfl (Nat.le_of_ble_eq_true rfl) (Val.move rfl) ?_
      refine TL.val rfl rfl (Nat.le_of_ble_eq_true rfl) (Val.assign rfl) ?_
      refine TL.val rfl rfl (Nat.le_of_ble_eq_true rfl) (Val.assign rfl) ?_
      refine TL.nil ?_
      refine AtX.then ?_
      refine TC.env (E' := [(4, _), (5, _)]) (Sub.cons rfl (Sub.cons rfl (Sub.nil _))) ?_
      refine TC.ret2 (fn := Try.f28) (fun _ _ h => h) rfl (RV.tmp rfl) (RV.tmp rfl) (fun _ h => h) ?_
      refine ⟨?_, rfl⟩
      have : k = 8 := by omega
      subst this; rfl

/-- bytes.Clone -/
theorem Clone_fn (l : List UInt8) (A : Option Addr) (n c : Nat) (M : Hp) (hA : RdS M A (bv l)) (hn : n = l.length) (hl : l.length ≤ 100000) : FnC Try.prog 25 #[.slice A n c] M (fun v M' => ∃ σ, v = .slice (slA σ) l.length (slC σ) ∧ slOk σ 1 l.length (bv l) ∧ M' = slH σ 5 (bv l) ++ M) := by
  subst hn
  refine FnC.intro Try.func25 rfl 8 rfl (by simp) (fun z => ?_)
  refine TC.env (E' := [(0, _)]) (Sub.cons rfl (Sub.nil _)) ?_
  refine TC.seq ?_
  refine TC.region ?_
  refine TL.val rfl rfl (Nat.le_of_ble_eq_true rfl) (Val.assign rfl) ?_
  refine TL.nil ?_
  refine AtX.then ?_
  refine TC.seq ?_
  refine TC.seq ?_
  refine TC.region ?_
  refine TL.val rfl rfl (Nat.le_of_ble_eq_true rfl) (Val.move rfl) ?_
  refine TL.val rfl rfl (Nat.le_of_ble_eq_true rfl) (Val.eqlNilS rfl rfl sl23) ?_
  refine TL.nil ?_
  refine AtX.then ?_
  refine TC.env (E' := [(0, _), (2, _), (4, _)]) (Sub.cons rfl (Sub.cons rfl (Sub.cons rfl (Sub.nil _)))) ?_
  first | refine TC.condP rfl (fun c1 => ?_) (fun c1 => ?_) | refine TC.condN rfl (fun c1 => ?_) (fun c1 => ?_) | refine TC.condB rfl (fun c1 => ?_) (fun c1 => ?_) | refine TC.cond rfl (fun c1 => ?_) (fun c1 => ?_)
  · skip
    refine TC.env (E' := [(0, _), (2, _)]) (Sub.cons rfl (Sub.cons rfl (Sub.nil _))) ?_
    refine TC.seq ?_
    refine TC.region ?_
    refine TL.val rfl rfl (Nat.le_of_ble_eq_true rfl) (Val.assign rfl) ?_
    refine TL.nil ?_
    refine AtX.then ?_
    refine TC.env (E' := [(0, _), (2, _)]) (Sub.cons rfl (Sub.cons rfl (Sub.nil _))) ?_
    refine TC.ret1 (fn := Try.f25) (fun _ _ h => h) rfl (RV.tmp rfl) (fun _ h => h) ?_
    cases A with
    | none =>
      have h0 : l = [] := by
        rcases hA with h | ⟨p, hp, _⟩
        · cases l <;> simp [bv] at h ⊢
        · cases hp
      subst h0
      exact ⟨none, rfl, slOk_nil 1, rfl⟩
    | some p => simp at c1
  · skip
    refine TC.env (E' := [(0, _), (2, _)]) (Sub.cons rfl (Sub.cons rfl (Sub.nil _))) ?_
    refine TC.skip ?_
    refine AtX.then ?_
    refine TC.env (E' := [(0, _), (2, _)]) (Sub.cons rfl (Sub.cons rfl (Sub.nil _))) ?_
    refine TC.seq ?_
    refine TC.region ?_
    refine TL.does (some 5) rfl rfl rfl (Does.buildSlice0 sl23 sz5) ?_
    rintro _ _ ⟨b1, rfl, rfl⟩
    refine TL.val rfl rfl (Nat.le_of_ble_eq_true rfl) (Val.move rfl) ?_
    refine TL.does (some 7) rfl rfl rfl (Does.appendS (xs := []) (ys := bv l) (n := 0) (some (b1, 0, [])) M ro_refl rfl rfl sl23 sz5 by5 ze5 rfl ⟨rfl, rfl⟩ (srcB us23 ((hA.cons _))) (by simp) (bv_one _) (by omega) (by omega)) ?_
    rintro _ _ ⟨σ, rfl, hok, rfl⟩
    refine TL.val rfl rfl (Nat.le_of_ble_eq_true rfl) (Val.assign rfl) ?_
    refine TL.nil ?_
    refine AtX.then ?_
    refine TC.env (E' := [(2, _)]) (Sub.cons rfl (Sub.nil _)) ?_
    refine TC.ret1 (fn := Try.f25) (fun _ _ h => h) rfl (RV.tmp rfl) (fun _ h => h) ?_
    exact ⟨σ, by simp, by simpa using hok, by simp⟩

/-- bytes.Equal -/
theorem Equal_fn (l m : List UInt8) (A B : Option Addr) (n n2 c c2 : Nat) (M : Hp) (hA : RdS M A (bv l)) (hB : RdS M B (bv m)) (hn : n = l.length) (hn2 : n2 = m.length) : FnC Try.prog 26 #[.slice A n c, .slice B n2 c2] M (fun v M' => ∃ g, g = decide (l = m) ∧ v = .bool g ∧ M = M') := by
  refine FnC.intro Try.func26 rfl 10 rfl (by simp) (fun z => ?_)
  refine TC.env (E' := [(0, _), (1, _)]) (Sub.cons rfl (Sub.cons rfl (Sub.nil _))) ?_
  refine TC.seq ?_
  refine TC.region ?_
  refine TL.val rfl rfl (Nat.le_of_ble_eq_true rfl) (Val.assign rfl) ?_
  refine TL.nil ?_
  refine AtX.then ?_
  refine TC.seq ?_
  refine TC.region ?_
  refine TL.val rfl rfl (Nat.le_of_ble_eq_true rfl) (Val.move rfl) ?_
  refine TL.val rfl rfl (Nat.le_of_ble_eq_true rfl) (Val.b2s rfl us23 ui5 un9 hn hA) ?_
  refine TL.val rfl rfl (Nat.le_of_ble_eq_true rfl) (Val.move rfl) ?_
  refine TL.val rfl rfl (Nat.le_of_ble_eq_true rfl) (Val.b2s rfl us23 ui5 un9 hn2 hB) ?_
  refine TL.val rfl rfl (Nat.le_of_ble_eq_true rfl) (Val.eqlS rfl rfl) ?_
  refine TL.val rfl rfl (Nat.le_of_ble_eq_true rfl) (Val.assign rfl) ?_
  refine TL.nil ?_
  refine AtX.then ?_
  refine TC.env (E' := [(4, _)]) (Sub.cons rfl (Sub.nil _)) ?_
  refine TC.ret1 (fn := Try.f26) (fun _ _ h => h) rfl (RV.tmp rfl) (fun _ h => h) ?_
  exact ⟨_, by rw [str_beq]; simp, rfl, rfl⟩

theorem Clone_rot (l : List UInt8) (A : Option Addr) (n c : Nat) (M : Hp) (hA : RdS M A (bv l)) (hn : n = l.length) (hl : l.length ≤ 100000) : FnC Try.prog 25 #[.slice A n c] M (fun v M' => ∃ σ, v = .slice (slA σ) l.length (slC σ) ∧ slOk σ 1 l.length (bv l) ∧ M' = M ++ slH σ 5 (bv l)) :=
  (Clone_fn l A n c M hA hn hl).heapR fun v M' ⟨σ, h1, h2, h3⟩ => ⟨_, ⟨σ, h1, h2, rfl⟩, fun z w h => ro_rot w (h3 ▸ h)⟩

end Go.Proofs.Ytbjjjapdioegpaa
