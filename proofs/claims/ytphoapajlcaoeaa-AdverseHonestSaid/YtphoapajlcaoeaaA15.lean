/- walks -/
import Derived.Test.YtphoapajlcaoeaaA14
import Derived.Test.YtphoapajlcaoeaaE9d
set_option linter.unusedVariables false
set_option linter.unusedSimpArgs false
set_option maxRecDepth 100000
set_option maxHeartbeats 4000000
namespace Go.Proofs.Ytphoapajlcaoeaa
open Go Go.X
/-- (*quorumite/adverse.World).Corrupt -/
theorem Corrupt_nil (k : Int) (M : Hp) : FnC Try.prog 14 #[.pointer none, .int .i64 k] M (fun v M' => v = .int .i64 1 ∧ M = M') := by
  refine FnC.intro Try.func14 rfl 37 rfl (by simp) (fun z => ?_)
  refine TC.env (E' := [(0, _), (1, _)]) (Sub.cons rfl (Sub.cons rfl (Sub.nil _))) ?_
  refine TC.seq ?_
  refine TC.region ?_
  refine TL.val rfl rfl (Nat.le_of_ble_eq_true rfl) (Val.assign rfl) ?_
  refine TL.nil ?_
  refine AtX.then ?_
  refine TC.seq ?_
  refine TC.seq ?_
  refine TC.region ?_
  refine TL.val rfl rfl (Nat.le_of_ble_eq_true rfl) (Val.move rfl) ?_
  refine TL.val rfl rfl (Nat.le_of_ble_eq_true rfl) (Val.move rfl) ?_
  refine TL.does (some 8) rfl rfl rfl (Does.callF go46 rfl (has_nil k _)) ?_
  rintro _ _ ⟨rfl, rfl⟩
  refine TL.val rfl rfl (Nat.le_of_ble_eq_true rfl) (Val.assign rfl) ?_
  refine TL.nil ?_
  refine AtX.then ?_
  refine TC.env (E' := [(0, _), (1, _), (4, _), (5, _)]) (Sub.cons rfl (Sub.cons rfl (Sub.cons rfl (Sub.cons rfl (Sub.nil _))))) ?_
  refine TC.seq ?_
  refine TC.region ?_
  refine TL.val rfl rfl (Nat.le_of_ble_eq_true rfl) (Val.move rfl) ?_
  refine TL.val rfl rfl (Nat.le_of_ble_eq_true rfl) (Val.neqI rfl rfl) ?_
  refine TL.nil ?_
  refine AtX.then ?_
  refine TC.env (E' := [(0, _), (1, _), (4, _), (5, _), (10, _)]) (Sub.cons rfl (Sub.cons rfl (Sub.cons rfl (Sub.cons rfl (Sub.cons rfl (Sub.nil _)))))) ?_
  first | refine TC.condP rfl (fun c1 => ?_) (fun c1 => ?_) | refine TC.condN rfl (fun c1 => ?_) (fun c1 => ?_) | refine TC.condB rfl (fun c1 => ?_) (fun c1 => ?_) | refine TC.cond rfl (fun c1 => ?_) (fun c1 => ?_)
  · skip
    refine TC.env (E' := [(0, _), (1, _), (4, _), (5, _)]) (Sub.cons rfl (Sub.cons rfl (Sub.cons rfl (Sub.cons rfl (Sub.nil _))))) ?_
    refine TC.seq ?_
    refine TC.region ?_
    refine TL.val rfl rfl (Nat.le_of_ble_eq_true rfl) (Val.move rfl) ?_
    refine TL.val rfl rfl (Nat.le_of_ble_eq_true rfl) (Val.assign rfl) ?_
    refine TL.nil ?_
    refine AtX.then ?_
    refine TC.env (E' := [(0, _), (1, _), (4, _)]) (Sub.cons rfl (Sub.cons rfl (Sub.cons rfl (Sub.nil _)))) ?_
    refine TC.ret1 (fn := Try.f14) (fun _ _ h => h) rfl (RV.tmp rfl) (fun _ h => h) ?_
    exact ⟨rfl, rfl⟩
  · skip
    exact absurd (by decide) c1

/-- (*quorumite/adverse.World).Corrupt -/
theorem Corrupt_yes (b i j : Nat) (c : Cf) (A : Option Addr) (nl cl bb : Nat) (σ : Sl) (nk : Nat) (n : Int) (l : List Bool) (H : Hp) (hi : H[i]? = some (wob b c A nl cl bb l.length σ nk n)) (hj : H[j]? = some (bb, row 4 (l.map Value.bool))) (hl : l.length ≤ 1000) (hnl : nl = l.length) (k : Nat) (hk : k < nl) (x : Bool) (hx : l[k]? = some x) (hm : x = true ∨ ((bads l).length : Int) < c.f) : FnC Try.prog 14 #[.pointer (some ⟨b, 0, none⟩), .int .i64 (k : Nat)] H (fun v M' => v = .int .i64 0 ∧ M' = H.set j (bb, row 4 ((l.set k true).map Value.bool))) := by
  have hR := rd_rowA hj
  have hkl : k < l.length := by omega
  refine FnC.intro Try.func14 rfl 37 rfl (by simp) (fun z => ?_)
  refine TC.env (E' := [(0, _), (1, _)]) (Sub.cons rfl (Sub.cons rfl (Sub.nil _))) ?_
  refine TC.seq ?_
  refine TC.region ?_
  refine TL.val rfl rfl (Nat.le_of_ble_eq_true rfl) (Val.assign rfl) ?_
  refine TL.nil ?_
  refine AtX.then ?_
  refine TC.seq ?_
  refine TC.seq ?_
  refine TC.region ?_
  refine TL.val rfl rfl (Nat.le_of_ble_eq_true rfl) (Val.move rfl) ?_
  refine TL.val rfl rfl (Nat.le_of_ble_eq_true rfl) (Val.move rfl) ?_
  refine TL.does (some 8) rfl rfl rfl (Does.callF go46 rfl (has_ok b i c A nl cl bb l.length σ nk n _ hi k hk)) ?_
  rintro _ _ ⟨rfl, rfl⟩
  refine TL.val rfl rfl (Nat.le_of_ble_eq_true rfl) (Val.assign rfl) ?_
  refine TL.nil ?_
  refine AtX.then ?_
  refine TC.env (E' := [(0, _), (1, _), (4, _), (5, _)]) (Sub.cons rfl (Sub.cons rfl (Sub.cons rfl (Sub.cons rfl (Sub.nil _))))) ?_
  refine TC.seq ?_
  refine TC.region ?_
  refine TL.val rfl rfl (Nat.le_of_ble_eq_true rfl) (Val.move rfl) ?_
  refine TL.val rfl rfl (Nat.le_of_ble_eq_true rfl) (Val.neqI rfl rfl) ?_
  refine TL.nil ?_
  refine AtX.then ?_
  refine TC.env (E' := [(0, _), (1, _), (4, _), (5, _), (10, _)]) (Sub.cons rfl (Sub.cons rfl (Sub.cons rfl (Sub.cons rfl (Sub.cons rfl (Sub.nil _)))))) ?_
  first | refine TC.condP rfl (fun c1 => ?_) (fun c1 => ?_) | refine TC.condN rfl (fun c1 => ?_) (fun c1 => ?_) | refine TC.condB rfl (fun c1 => ?_) (fun c1 => ?_) | refine TC.cond rfl (fun c1 => ?_) (fun c1 => ?_)
  · skip
    exact absurd rfl c1
  · skip
    refine TC.env (E' := [(0, _), (1, _), (4, _)]) (Sub.cons rfl (Sub.cons rfl (Sub.cons rfl (Sub.nil _)))) ?_
    refine TC.skip ?_
    refine AtX.then ?_
    refine TC.env (E' := [(0, _), (1, _), (4, _)]) (Sub.cons rfl (Sub.cons rfl (Sub.cons rfl (Sub.nil _)))) ?_
    refine TC.seq ?_
    refine TC.seq ?_
    refine TC.drawLM mixed 19 ?_
    refine TA.tk 0 1 rfl rfl rfl (Val.move rfl) ?_
    refine TA.tk 1 3 rfl rfl rfl (Val.nilCheck rfl) ?_
    refine TA.tk 2 7 rfl rfl rfl (Val.fieldAddr rfl fl94_2 sz85 rfl) ?_
    refine TA.tk 3 15 rfl rfl rfl (Val.load i rfl ag85 hi rfl) ?_
    refine TA.tk 4 31 rfl rfl rfl (Val.move rfl) ?_
    refine TA.tk 5 63 rfl rfl rfl (Val.indexAddr (i := k) (r := k) rfl rfl sl85 sz4 rfl hkl (by omega)) ?_
    refine TA.tk 6 127 rfl rfl rfl (Val.loadRd (o := 0) (j := k) (v := .bool x) rfl ag4 hR (by omega) (map_get hx)) ?_
    refine TA.tk 7 255 rfl rfl rfl (Val.not rfl) ?_
    refine TA.tk 8 511 rfl rfl rfl (Val.move rfl) ?_
    refine TA.gen (fun g2 hg2 => ?_)
    refine TA.gtk 9 1023 rfl rfl rfl rfl rfl (fun hg => by subst hg; exact (Val.move rfl)) ?_
    refine TA.gtk 12 5119 rfl rfl rfl rfl rfl (fun hg => by subst hg; exact (Val.move rfl)) ?_
    refine TA.gtk 13 13311 rfl rfl rfl rfl rfl (fun hg => by subst hg; exact (Val.nilCheck rfl)) ?_
    refine TA.gtk 14 29695 rfl rfl rfl rfl rfl (fun hg => by subst hg; exact (Val.fieldAddr rfl fl94_0 sz26 rfl)) ?_
    refine TA.gtk 15 62463 rfl rfl rfl rfl rfl (fun hg => by subst hg; exact (Val.fieldAddr rfl fl26_1 sz3 rfl)) ?_
    refine TA.gtk 16 127999 rfl rfl rfl rfl rfl (fun hg => by subst hg; exact (Val.load i rfl ag3 hi rfl)) ?_
    cases g2 with
    | false =>
      refine TA.tkP 10 129023 rfl rfl rfl rfl rfl rfl ?_
      refine TA.tkP 11 131071 rfl rfl rfl rfl rfl rfl ?_
      refine TA.tkP 17 262143 rfl rfl rfl rfl rfl rfl ?_
      first
        | refine TA.tk 18 524287 rfl rfl rfl (Val.pickAnd rfl rfl rfl) ?_
        | refine TA.tk 18 524287 rfl rfl rfl (Val.pickOr rfl rfl rfl) ?_
        | refine TA.tk 18 524287 rfl rfl rfl (Val.pick rfl rfl rfl) ?_
      refine TA.done (by kernel_rfl) ?_
      refine AtX.then ?_
      refine TC.env (E' := [(0, _), (1, _), (4, _), (30, _)]) (Sub.cons rfl (Sub.cons rfl (Sub.cons rfl (Sub.cons rfl (Sub.nil _))))) ?_
      first | refine TC.condP rfl (fun c2 => ?_) (fun c2 => ?_) | refine TC.condN rfl (fun c2 => ?_) (fun c2 => ?_) | refine TC.condB rfl (fun c2 => ?_) (fun c2 => ?_) | refine TC.cond rfl (fun c2 => ?_) (fun c2 => ?_)
      · skip
        (exfalso; grind)
      · skip
        refine TC.env (E' := [(0, _), (1, _), (4, _)]) (Sub.cons rfl (Sub.cons rfl (Sub.cons rfl (Sub.nil _)))) ?_
        refine TC.skip ?_
        refine AtX.then ?_
        refine TC.env (E' := [(0, _), (1, _), (4, _)]) (Sub.cons rfl (Sub.cons rfl (Sub.cons rfl (Sub.nil _)))) ?_
        refine TC.seq ?_
        refine TC.heap (M' := H) (by repeat (first | exact ro_refl | exact ro_pre | refine ro_tail ?_ | refine ro_app ?_)) ?_
        refine TC.region ?_
        refine TL.val rfl rfl (Nat.le_of_ble_eq_true rfl) (Val.move rfl) ?_
        refine TL.val rfl rfl (Nat.le_of_ble_eq_true rfl) (Val.nilCheck rfl) ?_
        refine TL.val rfl rfl (Nat.le_of_ble_eq_true rfl) (Val.fieldAddr rfl fl94_2 sz85 rfl) ?_
        refine TL.val rfl rfl (Nat.le_of_ble_eq_true rfl) (Val.load i rfl ag85 hi rfl) ?_
        refine TL.val rfl rfl (Nat.le_of_ble_eq_true rfl) (Val.move rfl) ?_
        refine TL.val rfl rfl (Nat.le_of_ble_eq_true rfl) (Val.indexAddr (i := k) (r := k) rfl rfl sl85 sz4 rfl hkl (by omega)) ?_
        refine TL.does none rfl rfl rfl (Does.storeR j rfl rfl hj sz4 rfl rfl (by simp; omega) (map_set1 (f := Value.bool) hkl true)) ?_
        rintro _ _ ⟨rfl, rfl⟩
        refine TL.nil ?_
        refine AtX.then ?_
        refine TC.env (E' := [(4, _)]) (Sub.cons rfl (Sub.nil _)) ?_
        refine TC.seq ?_
        refine TC.region ?_
        refine TL.val rfl rfl (Nat.le_of_ble_eq_true rfl) (Val.assign rfl) ?_
        refine TL.nil ?_
        refine AtX.then ?_
        refine TC.env (E' := [(4, _)]) (Sub.cons rfl (Sub.nil _)) ?_
        refine TC.ret1 (fn := Try.f14) (fun _ _ h => h) rfl (RV.tmp rfl) (fun _ h => h) ?_
        exact ⟨rfl, rfl⟩
    | true =>
      refine TA.one 10 (by kernel_rfl) ?_
      refine TO.dzY 129023 (some 22) rfl rfl rfl rfl rfl rfl (Does.callF go15 rfl (Bad_fn b i j c A nl cl bb σ nk n l _ hi hj hl)) ?_
      rintro _ _ ⟨τ, rfl, hok, rfl⟩
      refine roK ?_
      refine TA.tkY 11 131071 rfl rfl rfl rfl rfl (Val.lenSl rfl rfl sl22) ?_
      refine TA.tkY 17 262143 rfl rfl rfl rfl rfl (Val.geq rfl rfl) ?_
      first
        | refine TA.tk 18 524287 rfl rfl rfl (Val.pickAnd rfl rfl rfl) ?_
        | refine TA.tk 18 524287 rfl rfl rfl (Val.pickOr rfl rfl rfl) ?_
        | refine TA.tk 18 524287 rfl rfl rfl (Val.pick rfl rfl rfl) ?_
      refine TA.done (by kernel_rfl) ?_
      refine AtX.then ?_
      refine TC.env (E' := [(0, _), (1, _), (4, _), (30, _)]) (Sub.cons rfl (Sub.cons rfl (Sub.cons rfl (Sub.cons rfl (Sub.nil _))))) ?_
      first | refine TC.condP rfl (fun c3 => ?_) (fun c3 => ?_) | refine TC.condN rfl (fun c3 => ?_) (fun c3 => ?_) | refine TC.condB rfl (fun c3 => ?_) (fun c3 => ?_) | refine TC.cond rfl (fun c3 => ?_) (fun c3 => ?_)
      · skip
        (exfalso; grind)
      · skip
        refine TC.env (E' := [(0, _), (1, _), (4, _)]) (Sub.cons rfl (Sub.cons rfl (Sub.cons rfl (Sub.nil _)))) ?_
        refine TC.skip ?_
        refine AtX.then ?_
        refine TC.env (E' := [(0, _), (1, _), (4, _)]) (Sub.cons rfl (Sub.cons rfl (Sub.cons rfl (Sub.nil _)))) ?_
        refine TC.seq ?_
        refine TC.heap (M' := H) (by repeat (first | exact ro_refl | exact ro_pre | refine ro_tail ?_ | refine ro_app ?_)) ?_
        refine TC.region ?_
        refine TL.val rfl rfl (Nat.le_of_ble_eq_true rfl) (Val.move rfl) ?_
        refine TL.val rfl rfl (Nat.le_of_ble_eq_true rfl) (Val.nilCheck rfl) ?_
        refine TL.val rfl rfl (Nat.le_of_ble_eq_true rfl) (Val.fieldAddr rfl fl94_2 sz85 rfl) ?_
        refine TL.val rfl rfl (Nat.le_of_ble_eq_true rfl) (Val.load i rfl ag85 hi rfl) ?_
        refine TL.val rfl rfl (Nat.le_of_ble_eq_true rfl) (Val.move rfl) ?_
        refine TL.val rfl rfl (Nat.le_of_ble_eq_true rfl) (Val.indexAddr (i := k) (r := k) rfl rfl sl85 sz4 rfl hkl (by omega)) ?_
        refine TL.does none rfl rfl rfl (Does.storeR j rfl rfl hj sz4 rfl rfl (by simp; omega) (map_set1 (f := Value.bool) hkl true)) ?_
        rintro _ _ ⟨rfl, rfl⟩
        refine TL.nil ?_
        refine AtX.then ?_
        refine TC.env (E' := [(4, _)]) (Sub.cons rfl (Sub.nil _)) ?_
        refine TC.seq ?_
        refine TC.region ?_
        refine TL.val rfl rfl (Nat.le_of_ble_eq_true rfl) (Val.assign rfl) ?_
        refine TL.nil ?_
        refine AtX.then ?_
        refine TC.env (E' := [(4, _)]) (Sub.cons rfl (Sub.nil _)) ?_
        refine TC.ret1 (fn := Try.f14) (fun _ _ h => h) rfl (RV.tmp rfl) (fun _ h => h) ?_
        exact ⟨rfl, rfl⟩

/-- (*quorumite/adverse.World).Corrupt -/
theorem Corrupt_full (b i j : Nat) (c : Cf) (A : Option Addr) (nl cl bb : Nat) (σ : Sl) (nk : Nat) (n : Int) (l : List Bool) (H : Hp) (hi : H[i]? = some (wob b c A nl cl bb l.length σ nk n)) (hj : H[j]? = some (bb, row 4 (l.map Value.bool))) (hl : l.length ≤ 1000) (hnl : nl = l.length) (k : Nat) (hk : k < nl) (hx : l[k]? = some false) (hm : c.f ≤ ((bads l).length : Int)) : FnC Try.prog 14 #[.pointer (some ⟨b, 0, none⟩), .int .i64 (k : Nat)] H (fun v M' => v = .int .i64 9 ∧ H = M') := by
  have hR := rd_rowA hj
  have hkl : k < l.length := by omega
  refine FnC.intro Try.func14 rfl 37 rfl (by simp) (fun z => ?_)
  refine TC.env (E' := [(0, _), (1, _)]) (Sub.cons rfl (Sub.cons rfl (Sub.nil _))) ?_
  refine TC.seq ?_
  refine TC.region ?_
  refine TL.val rfl rfl (Nat.le_of_ble_eq_true rfl) (Val.assign rfl) ?_
  refine TL.nil ?_
  refine AtX.then ?_
  refine TC.seq ?_
  refine TC.seq ?_
  refine TC.region ?_
  refine TL.val rfl rfl (Nat.le_of_ble_eq_true rfl) (Val.move rfl) ?_
  refine TL.val rfl rfl (Nat.le_of_ble_eq_true rfl) (Val.move rfl) ?_
  refine TL.does (some 8) rfl rfl rfl (Does.callF go46 rfl (has_ok b i c A nl cl bb l.length σ nk n _ hi k hk)) ?_
  rintro _ _ ⟨rfl, rfl⟩
  refine TL.val rfl rfl (Nat.le_of_ble_eq_true rfl) (Val.assign rfl) ?_
  refine TL.nil ?_
  refine AtX.then ?_
  refine TC.env (E' := [(0, _), (1, _), (4, _), (5, _)]) (Sub.cons rfl (Sub.cons rfl (Sub.cons rfl (Sub.cons rfl (Sub.nil _))))) ?_
  refine TC.seq ?_
  refine TC.region ?_
  refine TL.val rfl rfl (Nat.le_of_ble_eq_true rfl) (Val.move rfl) ?_
  refine TL.val rfl rfl (Nat.le_of_ble_eq_true rfl) (Val.neqI rfl rfl) ?_
  refine TL.nil ?_
  refine AtX.then ?_
  refine TC.env (E' := [(0, _), (1, _), (4, _), (5, _), (10, _)]) (Sub.cons rfl (Sub.cons rfl (Sub.cons rfl (Sub.cons rfl (Sub.cons rfl (Sub.nil _)))))) ?_
  first | refine TC.condP rfl (fun c1 => ?_) (fun c1 => ?_) | refine TC.condN rfl (fun c1 => ?_) (fun c1 => ?_) | refine TC.condB rfl (fun c1 => ?_) (fun c1 => ?_) | refine TC.cond rfl (fun c1 => ?_) (fun c1 => ?_)
  · skip
    exact absurd rfl c1
  · skip
    refine TC.env (E' := [(0, _), (1, _), (4, _)]) (Sub.cons rfl (Sub.cons rfl (Sub.cons rfl (Sub.nil _)))) ?_
    refine TC.skip ?_
    refine AtX.then ?_
    refine TC.env (E' := [(0, _), (1, _), (4, _)]) (Sub.cons rfl (Sub.cons rfl (Sub.cons rfl (Sub.nil _)))) ?_
    refine TC.seq ?_
    refine TC.seq ?_
    refine TC.drawLM mixed 19 ?_
    refine TA.tk 0 1 rfl rfl rfl (Val.move rfl) ?_
    refine TA.tk 1 3 rfl rfl rfl (Val.nilCheck rfl) ?_
    refine TA.tk 2 7 rfl rfl rfl (Val.fieldAddr rfl fl94_2 sz85 rfl) ?_
    refine TA.tk 3 15 rfl rfl rfl (Val.load i rfl ag85 hi rfl) ?_
    refine TA.tk 4 31 rfl rfl rfl (Val.move rfl) ?_
    refine TA.tk 5 63 rfl rfl rfl (Val.indexAddr (i := k) (r := k) rfl rfl sl85 sz4 rfl hkl (by omega)) ?_
    refine TA.tk 6 127 rfl rfl rfl (Val.loadRd (o := 0) (j := k) (v := .bool false) rfl ag4 hR (by omega) (map_get hx)) ?_
    refine TA.tk 7 255 rfl rfl rfl (Val.not rfl) ?_
    refine TA.tk 8 511 rfl rfl rfl (Val.move rfl) ?_
    refine TA.gen (fun g2 hg2 => ?_)
    refine TA.gtk 9 1023 rfl rfl rfl rfl rfl (fun hg => by subst hg; exact (Val.move rfl)) ?_
    refine TA.gtk 12 5119 rfl rfl rfl rfl rfl (fun hg => by subst hg; exact (Val.move rfl)) ?_
    refine TA.gtk 13 13311 rfl rfl rfl rfl rfl (fun hg => by subst hg; exact (Val.nilCheck rfl)) ?_
    refine TA.gtk 14 29695 rfl rfl rfl rfl rfl (fun hg => by subst hg; exact (Val.fieldAddr rfl fl94_0 sz26 rfl)) ?_
    refine TA.gtk 15 62463 rfl rfl rfl rfl rfl (fun hg => by subst hg; exact (Val.fieldAddr rfl fl26_1 sz3 rfl)) ?_
    refine TA.gtk 16 127999 rfl rfl rfl rfl rfl (fun hg => by subst hg; exact (Val.load i rfl ag3 hi rfl)) ?_
    cases g2 with
    | false =>
      refine TA.tkP 10 129023 rfl rfl rfl rfl rfl rfl ?_
      refine TA.tkP 11 131071 rfl rfl rfl rfl rfl rfl ?_
      refine TA.tkP 17 262143 rfl rfl rfl rfl rfl rfl ?_
      first
        | refine TA.tk 18 524287 rfl rfl rfl (Val.pickAnd rfl rfl rfl) ?_
        | refine TA.tk 18 524287 rfl rfl rfl (Val.pickOr rfl rfl rfl) ?_
        | refine TA.tk 18 524287 rfl rfl rfl (Val.pick rfl rfl rfl) ?_
      refine TA.done (by kernel_rfl) ?_
      refine AtX.then ?_
      refine TC.env (E' := [(0, _), (1, _), (4, _), (30, _)]) (Sub.cons rfl (Sub.cons rfl (Sub.cons rfl (Sub.cons rfl (Sub.nil _))))) ?_
      first | refine TC.condP rfl (fun c2 => ?_) (fun c2 => ?_) | refine TC.condN rfl (fun c2 => ?_) (fun c2 => ?_) | refine TC.condB rfl (fun c2 => ?_) (fun c2 => ?_) | refine TC.cond rfl (fun c2 => ?_) (fun c2 => ?_)
      · skip
        refine TC.env (E' := [(0, _), (1, _), (4, _)]) (Sub.cons rfl (Sub.cons rfl (Sub.cons rfl (Sub.nil _)))) ?_
        refine TC.seq ?_
        refine TC.region ?_
        refine TL.val rfl rfl (Nat.le_of_ble_eq_true rfl) (Val.assign rfl) ?_
        refine TL.nil ?_
        refine AtX.then ?_
        refine TC.env (E' := [(0, _), (1, _), (4, _)]) (Sub.cons rfl (Sub.cons rfl (Sub.cons rfl (Sub.nil _)))) ?_
        refine TC.ret1 (fn := Try.f14) (fun _ _ h => h) rfl (RV.tmp rfl) (M' := H) (by repeat (first | exact ro_refl | exact ro_pre | refine ro_tail ?_ | refine ro_app ?_)) ?_
        exact ⟨rfl, rfl⟩
      · skip
        (exfalso; grind)
    | true =>
      refine TA.one 10 (by kernel_rfl) ?_
      refine TO.dzY 129023 (some 22) rfl rfl rfl rfl rfl rfl (Does.callF go15 rfl (Bad_fn b i j c A nl cl bb σ nk n l _ hi hj hl)) ?_
      rintro _ _ ⟨τ, rfl, hok, rfl⟩
      refine roK ?_
      refine TA.tkY 11 131071 rfl rfl rfl rfl rfl (Val.lenSl rfl rfl sl22) ?_
      refine TA.tkY 17 262143 rfl rfl rfl rfl rfl (Val.geq rfl rfl) ?_
      first
        | refine TA.tk 18 524287 rfl rfl rfl (Val.pickAnd rfl rfl rfl) ?_
        | refine TA.tk 18 524287 rfl rfl rfl (Val.pickOr rfl rfl rfl) ?_
        | refine TA.tk 18 524287 rfl rfl rfl (Val.pick rfl rfl rfl) ?_
      refine TA.done (by kernel_rfl) ?_
      refine AtX.then ?_
      refine TC.env (E' := [(0, _), (1, _), (4, _), (30, _)]) (Sub.cons rfl (Sub.cons rfl (Sub.cons rfl (Sub.cons rfl (Sub.nil _))))) ?_
      first | refine TC.condP rfl (fun c3 => ?_) (fun c3 => ?_) | refine TC.condN rfl (fun c3 => ?_) (fun c3 => ?_) | refine TC.condB rfl (fun c3 => ?_) (fun c3 => ?_) | refine TC.cond rfl (fun c3 => ?_) (fun c3 => ?_)
      · skip
        refine TC.env (E' := [(0, _), (1, _), (4, _)]) (Sub.cons rfl (Sub.cons rfl (Sub.cons rfl (Sub.nil _)))) ?_
        refine TC.seq ?_
        refine TC.region ?_
        refine TL.val rfl rfl (Nat.le_of_ble_eq_true rfl) (Val.assign rfl) ?_
        refine TL.nil ?_
        refine AtX.then ?_
        refine TC.env (E' := [(0, _), (1, _), (4, _)]) (Sub.cons rfl (Sub.cons rfl (Sub.cons rfl (Sub.nil _)))) ?_
        refine TC.ret1 (fn := Try.f14) (fun _ _ h => h) rfl (RV.tmp rfl) (M' := H) (by repeat (first | exact ro_refl | exact ro_pre | refine ro_tail ?_ | refine ro_app ?_)) ?_
        exact ⟨rfl, rfl⟩
      · skip
        (exfalso; grind)

end Go.Proofs.Ytphoapajlcaoeaa
