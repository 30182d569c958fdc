/- walks -/
import Derived.Test.YtphoapajlcaoeaaA9
import Derived.Test.YtphoapajlcaoeaaE14
import Derived.Test.YtphoapajlcaoeaaE9d
set_option linter.unusedVariables false
set_option linter.unusedSimpArgs false
set_option maxRecDepth 100000
set_option maxHeartbeats 4000000
namespace Go.Proofs.Ytphoapajlcaoeaa
open Go Go.X
abbrev sobj (b : Nat) (s w g q : Int) : Nat × Obj := (b, .cells #[.int .u64 s, .int .i64 w, .int .i64 g, .int .i64 q] 121 (0, 0))
/-- (*sync/atomic.Int64).Load -/
theorem aLoad_fn (b off i : Nat) (cs : Array Value) (T : TypeId) (fz : Nat × Nat) (n : Int) (M : Hp) (hi : M[i]? = some (b, .cells cs T fz)) (hv : nth cs.toList off = some (.int .i64 n)) : FnC Try.prog 85 #[.pointer (some ⟨b, off, none⟩)] M (fun v M' => v = .int .i64 n ∧ M = M') := by
  refine FnC.intro Try.func85 rfl 7 rfl (by simp) (fun z => ?_)
  refine TC.env (E' := [(0, _)]) (Sub.cons rfl (Sub.nil _)) ?_
  refine TC.seq ?_
  refine TC.region ?_
  refine TL.val rfl rfl (Nat.le_of_ble_eq_true rfl) (Val.assign rfl) ?_
  refine TL.nil ?_
  refine AtX.then ?_
  refine TC.seq ?_
  refine TC.region ?_
  refine TL.val rfl rfl (Nat.le_of_ble_eq_true rfl) (Val.move rfl) ?_
  refine TL.val rfl rfl (Nat.le_of_ble_eq_true rfl) (Val.nilCheck rfl) ?_
  refine TL.val rfl rfl (Nat.le_of_ble_eq_true rfl) (Val.fieldAddr rfl fl92_2 sz2 rfl) ?_
  refine TL.val rfl rfl (Nat.le_of_ble_eq_true rfl) (Val.atomL Try.func109 (by kernel_rfl) (by kernel_rfl) (by kernel_rfl) (by kernel_rfl) i rfl hi hv) ?_
  refine TL.val rfl rfl (Nat.le_of_ble_eq_true rfl) (Val.assign rfl) ?_
  refine TL.nil ?_
  refine AtX.then ?_
  refine TC.env (E' := [(2, _)]) (Sub.cons rfl (Sub.nil _)) ?_
  refine TC.ret1 (fn := Try.f85) (fun _ _ h => h) rfl (RV.tmp rfl) (fun _ h => h) ?_
  exact ⟨rfl, rfl⟩

/-- (*sync/atomic.Int64).Store -/
theorem aStore_fn (b off i : Nat) (cs : Array Value) (T : TypeId) (n : Int) (M : Hp) (hi : M[i]? = some (b, .cells cs T (0, 0))) (ho : off < cs.size) : FnC Try.prog 69 #[.pointer (some ⟨b, off, none⟩), .int .i64 n] M (fun v M' => v = .tuple #[] ∧ M' = M.set i (b, .cells (cs.setIfInBounds off (.int .i64 n)) T (0, 0))) := by
  refine FnC.intro Try.func69 rfl 9 rfl (by simp) (fun z => ?_)
  refine TC.env (E' := [(0, _), (1, _)]) (Sub.cons rfl (Sub.cons rfl (Sub.nil _))) ?_
  refine TC.region ?_
  refine TL.val rfl rfl (Nat.le_of_ble_eq_true rfl) (Val.move rfl) ?_
  refine TL.val rfl rfl (Nat.le_of_ble_eq_true rfl) (Val.nilCheck rfl) ?_
  refine TL.val rfl rfl (Nat.le_of_ble_eq_true rfl) (Val.fieldAddr rfl fl92_2 sz2 rfl) ?_
  refine TL.val rfl rfl (Nat.le_of_ble_eq_true rfl) (Val.move rfl) ?_
  refine TL.does (some 8) rfl rfl rfl (Does.atomS Try.func100 (by kernel_rfl) (by kernel_rfl) (by kernel_rfl) (by kernel_rfl) i rfl rfl hi ho) ?_
  rintro _ _ ⟨rfl, rfl⟩
  refine TL.nil ?_
  refine AtX.end0 rfl (fun _ h => h) ?_
  exact ⟨rfl, rfl⟩

/-- (*sync/atomic.Int64).Add -/
theorem aAdd_fn (b off i : Nat) (cs : Array Value) (T : TypeId) (n d r : Int) (M : Hp) (hi : M[i]? = some (b, .cells cs T (0, 0))) (hv : nth cs.toList off = some (.int .i64 n)) (hr : IntKind.i64.wrap (n + d) = r) : FnC Try.prog 52 #[.pointer (some ⟨b, off, none⟩), .int .i64 d] M (fun v M' => v = .int .i64 r ∧ M' = M.set i (b, .cells (cs.setIfInBounds off (.int .i64 r)) T (0, 0))) := by
  refine FnC.intro Try.func52 rfl 10 rfl (by simp) (fun z => ?_)
  refine TC.env (E' := [(0, _), (1, _)]) (Sub.cons rfl (Sub.cons rfl (Sub.nil _))) ?_
  refine TC.seq ?_
  refine TC.region ?_
  refine TL.val rfl rfl (Nat.le_of_ble_eq_true rfl) (Val.assign rfl) ?_
  refine TL.nil ?_
  refine AtX.then ?_
  refine TC.seq ?_
  refine TC.region ?_
  refine TL.val rfl rfl (Nat.le_of_ble_eq_true rfl) (Val.move rfl) ?_
  refine TL.val rfl rfl (Nat.le_of_ble_eq_true rfl) (Val.nilCheck rfl) ?_
  refine TL.val rfl rfl (Nat.le_of_ble_eq_true rfl) (Val.fieldAddr rfl fl92_2 sz2 rfl) ?_
  refine TL.val rfl rfl (Nat.le_of_ble_eq_true rfl) (Val.move rfl) ?_
  refine TL.does (some 9) rfl rfl rfl (Does.atomA Try.func87 (by kernel_rfl) (by kernel_rfl) (by kernel_rfl) (by kernel_rfl) i rfl rfl hi hv hr) ?_
  rintro _ _ ⟨rfl, rfl⟩
  refine TL.val rfl rfl (Nat.le_of_ble_eq_true rfl) (Val.assign rfl) ?_
  refine TL.nil ?_
  refine AtX.then ?_
  refine TC.env (E' := [(4, _)]) (Sub.cons rfl (Sub.nil _)) ?_
  refine TC.ret1 (fn := Try.f52) (fun _ _ h => h) rfl (RV.tmp rfl) (fun _ h => h) ?_
  exact ⟨rfl, rfl⟩

/-- quorumite/seal.New -/
theorem sNew_fn (s w : Int) (M : Hp) (hw : 0 ≤ w ∧ w ≤ 15) : FnC Try.prog 30 #[.int .u64 s, .int .i64 w] M (fun v M' => ∃ b, v = .pointer (some ⟨b, 0, none⟩) ∧ M' = sobj b s w 0 0 :: M) := by
  refine FnC.intro Try.func30 rfl 15 rfl (by simp) (fun z => ?_)
  refine TC.env (E' := [(0, _), (1, _)]) (Sub.cons rfl (Sub.cons rfl (Sub.nil _))) ?_
  refine TC.seq ?_
  refine TC.region ?_
  refine TL.val rfl rfl (Nat.le_of_ble_eq_true rfl) (Val.assign rfl) ?_
  refine TL.nil ?_
  refine AtX.then ?_
  refine TC.seq ?_
  refine TC.seq ?_
  refine TC.region ?_
  refine TL.val rfl rfl (Nat.le_of_ble_eq_true rfl) (Val.move rfl) ?_
  refine TL.val rfl rfl (Nat.le_of_ble_eq_true rfl) (Val.lss rfl rfl) ?_
  refine TL.val rfl rfl (Nat.le_of_ble_eq_true rfl) (Val.move rfl) ?_
  refine TL.gen (fun g1 hg1 => ?_)
  refine TL.gval rfl rfl (Nat.le_of_ble_eq_true rfl) rfl (Nat.le_of_ble_eq_true rfl) rfl (fun hg => by subst hg; exact (Val.move rfl)) ?_
  refine TL.gval rfl rfl (Nat.le_of_ble_eq_true rfl) rfl (Nat.le_of_ble_eq_true rfl) rfl (fun hg => by subst hg; exact (Val.geq rfl rfl)) ?_
  first
    | refine TL.val rfl rfl (Nat.le_of_ble_eq_true rfl) (Val.pickAnd rfl rfl rfl) ?_
    | refine TL.val rfl rfl (Nat.le_of_ble_eq_true rfl) (Val.pickOr rfl rfl rfl) ?_
    | refine TL.val rfl rfl (Nat.le_of_ble_eq_true rfl) (Val.pick rfl rfl rfl) ?_
  refine TL.nil ?_
  refine AtX.then ?_
  refine TC.env (E' := [(0, _), (1, _), (4, _), (10, _)]) (Sub.cons rfl (Sub.cons rfl (Sub.cons rfl (Sub.cons rfl (Sub.nil _))))) ?_
  first | refine TC.condP rfl (fun c1 => ?_) (fun c1 => ?_) | refine TC.condN rfl (fun c1 => ?_) (fun c1 => ?_) | refine TC.condB rfl (fun c1 => ?_) (fun c1 => ?_) | refine TC.cond rfl (fun c1 => ?_) (fun c1 => ?_)
  · skip
    (exfalso; grind)
  · skip
    refine TC.env (E' := [(0, _), (1, _), (4, _)]) (Sub.cons rfl (Sub.cons rfl (Sub.cons rfl (Sub.nil _)))) ?_
    refine TC.skip ?_
    refine AtX.then ?_
    refine TC.env (E' := [(0, _), (1, _), (4, _)]) (Sub.cons rfl (Sub.cons rfl (Sub.cons rfl (Sub.nil _)))) ?_
    refine TC.seq ?_
    refine TC.region ?_
    refine TL.val rfl rfl (Nat.le_of_ble_eq_true rfl) (Val.move rfl) ?_
    refine TL.val rfl rfl (Nat.le_of_ble_eq_true rfl) (Val.move rfl) ?_
    refine TL.val rfl rfl (Nat.le_of_ble_eq_true rfl) (Val.buildS pl121 ze121 rfl rfl) ?_
    refine TL.does (some 14) rfl rfl rfl (Does.box rfl rfl) ?_
    rintro _ _ ⟨b2, rfl, rfl⟩
    refine TL.val rfl rfl (Nat.le_of_ble_eq_true rfl) (Val.assign rfl) ?_
    refine TL.nil ?_
    refine AtX.then ?_
    refine TC.env (E' := [(4, _)]) (Sub.cons rfl (Sub.nil _)) ?_
    refine TC.ret1 (fn := Try.f30) (fun _ _ h => h) rfl (RV.tmp rfl) (fun _ h => h) ?_
    exact ⟨_, rfl, rfl⟩

/-- (*quorumite/seal.Sealer).Gen -/
theorem Gen_fn (b i : Nat) (s w g q : Int) (M : Hp) (hi : M[i]? = some (sobj b s w g q)) : FnC Try.prog 48 #[.pointer (some ⟨b, 0, none⟩)] M (fun v M' => v = .int .i64 g ∧ M = M') := by
  refine FnC.intro Try.func48 rfl 9 rfl (by simp) (fun z => ?_)
  refine TC.env (E' := [(0, _)]) (Sub.cons rfl (Sub.nil _)) ?_
  refine TC.seq ?_
  refine TC.region ?_
  refine TL.val rfl rfl (Nat.le_of_ble_eq_true rfl) (Val.assign rfl) ?_
  refine TL.nil ?_
  refine AtX.then ?_
  refine TC.seq ?_
  refine TC.seq ?_
  refine TC.region ?_
  refine TL.val rfl rfl (Nat.le_of_ble_eq_true rfl) (Val.move rfl) ?_
  refine TL.val rfl rfl (Nat.le_of_ble_eq_true rfl) (Val.eqlNil rfl rfl pt57) ?_
  refine TL.nil ?_
  refine AtX.then ?_
  refine TC.env (E' := [(0, _), (2, _), (4, _)]) (Sub.cons rfl (Sub.cons rfl (Sub.cons rfl (Sub.nil _)))) ?_
  first | refine TC.condP rfl (fun c1 => ?_) (fun c1 => ?_) | refine TC.condN rfl (fun c1 => ?_) (fun c1 => ?_) | refine TC.condB rfl (fun c1 => ?_) (fun c1 => ?_) | refine TC.cond rfl (fun c1 => ?_) (fun c1 => ?_)
  · skip
    cases c1
  · skip
    refine TC.env (E' := [(0, _), (2, _)]) (Sub.cons rfl (Sub.cons rfl (Sub.nil _))) ?_
    refine TC.skip ?_
    refine AtX.then ?_
    refine TC.env (E' := [(0, _), (2, _)]) (Sub.cons rfl (Sub.cons rfl (Sub.nil _))) ?_
    refine TC.seq ?_
    refine TC.region ?_
    refine TL.val rfl rfl (Nat.le_of_ble_eq_true rfl) (Val.move rfl) ?_
    refine TL.val rfl rfl (Nat.le_of_ble_eq_true rfl) (Val.nilCheck rfl) ?_
    refine TL.val rfl rfl (Nat.le_of_ble_eq_true rfl) (Val.fieldAddr rfl fl121_2 sz3 rfl) ?_
    refine TL.val rfl rfl (Nat.le_of_ble_eq_true rfl) (Val.load i rfl ag3 hi rfl) ?_
    refine TL.val rfl rfl (Nat.le_of_ble_eq_true rfl) (Val.assign rfl) ?_
    refine TL.nil ?_
    refine AtX.then ?_
    refine TC.env (E' := [(2, _)]) (Sub.cons rfl (Sub.nil _)) ?_
    refine TC.ret1 (fn := Try.f48) (fun _ _ h => h) rfl (RV.tmp rfl) (fun _ h => h) ?_
    exact ⟨rfl, rfl⟩

/-- (*quorumite/seal.Sealer).Seq -/
theorem Seq_fn (b i : Nat) (s w g q : Int) (M : Hp) (hi : M[i]? = some (sobj b s w g q)) : FnC Try.prog 49 #[.pointer (some ⟨b, 0, none⟩)] M (fun v M' => v = .int .i64 q ∧ M = M') := by
  refine FnC.intro Try.func49 rfl 9 rfl (by simp) (fun z => ?_)
  refine TC.env (E' := [(0, _)]) (Sub.cons rfl (Sub.nil _)) ?_
  refine TC.seq ?_
  refine TC.region ?_
  refine TL.val rfl rfl (Nat.le_of_ble_eq_true rfl) (Val.assign rfl) ?_
  refine TL.nil ?_
  refine AtX.then ?_
  refine TC.seq ?_
  refine TC.seq ?_
  refine TC.region ?_
  refine TL.val rfl rfl (Nat.le_of_ble_eq_true rfl) (Val.move rfl) ?_
  refine TL.val rfl rfl (Nat.le_of_ble_eq_true rfl) (Val.eqlNil rfl rfl pt57) ?_
  refine TL.nil ?_
  refine AtX.then ?_
  refine TC.env (E' := [(0, _), (2, _), (4, _)]) (Sub.cons rfl (Sub.cons rfl (Sub.cons rfl (Sub.nil _)))) ?_
  first | refine TC.condP rfl (fun c1 => ?_) (fun c1 => ?_) | refine TC.condN rfl (fun c1 => ?_) (fun c1 => ?_) | refine TC.condB rfl (fun c1 => ?_) (fun c1 => ?_) | refine TC.cond rfl (fun c1 => ?_) (fun c1 => ?_)
  · skip
    cases c1
  · skip
    refine TC.env (E' := [(0, _), (2, _)]) (Sub.cons rfl (Sub.cons rfl (Sub.nil _))) ?_
    refine TC.skip ?_
    refine AtX.then ?_
    refine TC.env (E' := [(0, _), (2, _)]) (Sub.cons rfl (Sub.cons rfl (Sub.nil _))) ?_
    refine TC.seq ?_
    refine TC.region ?_
    refine TL.val rfl rfl (Nat.le_of_ble_eq_true rfl) (Val.move rfl) ?_
    refine TL.val rfl rfl (Nat.le_of_ble_eq_true rfl) (Val.nilCheck rfl) ?_
    refine TL.val rfl rfl (Nat.le_of_ble_eq_true rfl) (Val.fieldAddr rfl fl121_3 sz92 rfl) ?_
    refine TL.does (some 8) rfl rfl rfl (Does.callF go85 rfl (aLoad_fn b 3 i _ _ _ q _ hi rfl)) ?_
    rintro _ _ ⟨rfl, rfl⟩
    refine TL.val rfl rfl (Nat.le_of_ble_eq_true rfl) (Val.assign rfl) ?_
    refine TL.nil ?_
    refine AtX.then ?_
    refine TC.env (E' := [(2, _)]) (Sub.cons rfl (Sub.nil _)) ?_
    refine TC.ret1 (fn := Try.f49) (fun _ _ h => h) rfl (RV.tmp rfl) (fun _ h => h) ?_
    exact ⟨rfl, rfl⟩

/-- (*quorumite/seal.Sealer).seal -/
theorem sSeal_fn (b i : Nat) (s w g q : Int) (m : Ms) (M : Hp) (hi : M[i]? = some (sobj b s w g q)) (hm : mayM ⟨m.kind, w, m.gen, q + 1, m.epoch, m.value, m.metric⟩ = true) : FnC Try.prog 62 #[.pointer (some ⟨b, 0, none⟩), .agg #[.int .i64 m.kind, .int .i64 m.who, .int .i64 m.gen, .int .i64 m.seq, .int .i64 m.epoch, .int .i64 m.value, .int .i64 m.metric]] M (fun v M' => ∃ bE c sp, v = .tuple #[.slice (some ⟨bE, 0, none⟩) 48 c, .int .i64 0] ∧ 48 + sp.length = c ∧ M' = (bE, row 5 (bv (sealB (macKey s w g) ⟨m.kind, w, m.gen, q + 1, m.epoch, m.value, m.metric⟩) ++ sp)) :: M.set i (sobj b s w g (q + 1))) := by
  obtain ⟨hk, hw, hg, hs, he, hme, hv⟩ := mayM_iff.1 hm
  simp only at hk hw hg hs he hme hv
  refine FnC.intro Try.func62 rfl 47 rfl (by simp) (fun z => ?_)
  refine TC.env (E' := [(0, _), (1, _)]) (Sub.cons rfl (Sub.cons rfl (Sub.nil _))) ?_
  refine TC.seq ?_
  refine TC.region ?_
  refine TL.does (some 3) rfl rfl rfl (Does.box rfl rfl) ?_
  rintro _ _ ⟨b1, rfl, rfl⟩
  refine TL.val rfl rfl (Nat.le_of_ble_eq_true rfl) (Val.assign rfl) ?_
  refine TL.val rfl rfl (Nat.le_of_ble_eq_true rfl) (Val.assign rfl) ?_
  refine TL.nil ?_
  refine AtX.then ?_
  refine TC.env (E' := [(0, _), (3, _), (4, _), (5, _)]) (Sub.cons rfl (Sub.cons rfl (Sub.cons rfl (Sub.cons rfl (Sub.nil _))))) ?_
  refine TC.seq ?_
  refine TC.seq ?_
  refine TC.region ?_
  refine TL.val rfl rfl (Nat.le_of_ble_eq_true rfl) (Val.move rfl) ?_
  refine TL.val rfl rfl (Nat.le_of_ble_eq_true rfl) (Val.eqlNil rfl rfl pt57) ?_
  refine TL.nil ?_
  refine AtX.then ?_
  refine TC.env (E' := [(0, _), (3, _), (4, _), (5, _), (9, _)]) (Sub.cons rfl (Sub.cons rfl (Sub.cons rfl (Sub.cons rfl (Sub.cons rfl (Sub.nil _)))))) ?_
  first | refine TC.condP rfl (fun c1 => ?_) (fun c1 => ?_) | refine TC.condN rfl (fun c1 => ?_) (fun c1 => ?_) | refine TC.condB rfl (fun c1 => ?_) (fun c1 => ?_) | refine TC.cond rfl (fun c1 => ?_) (fun c1 => ?_)
  · skip
    cases c1
  · skip
    refine TC.env (E' := [(0, _), (3, _), (4, _), (5, _)]) (Sub.cons rfl (Sub.cons rfl (Sub.cons rfl (Sub.cons rfl (Sub.nil _))))) ?_
    refine TC.skip ?_
    refine AtX.then ?_
    refine TC.env (E' := [(0, _), (3, _), (4, _), (5, _)]) (Sub.cons rfl (Sub.cons rfl (Sub.cons rfl (Sub.cons rfl (Sub.nil _))))) ?_
    refine TC.seq ?_
    refine TC.drawL M mixed 13 ?_
    refine TA.tk 0 1 rfl rfl rfl (Val.move rfl) ?_
    refine TA.tk 1 3 rfl rfl rfl (Val.nilCheck rfl) ?_
    refine TA.tk 2 7 rfl rfl rfl (Val.fieldAddr rfl fl121_1 sz3 rfl) ?_
    refine TA.tk 3 15 rfl rfl rfl (Val.load i rfl ag3 hi rfl) ?_
    refine TA.tk 4 31 rfl rfl rfl (Val.move rfl) ?_
    refine TA.tk 5 63 rfl rfl rfl (Val.nilCheck rfl) ?_
    refine TA.tk 6 127 rfl rfl rfl (Val.fieldAddr rfl fl121_3 sz92 rfl) ?_
    refine TA.tk 9 639 rfl rfl rfl (Val.fieldAddr rfl fl61_1 sz3 rfl) ?_
    refine TA.one 7 (by kernel_rfl) ?_
    refine TO.dz 767 (some 17) rfl rfl rfl rfl (Does.callF go85 rfl (aLoad_fn b 3 (i + 1) _ _ _ q _ hi rfl)) ?_
    rintro _ _ ⟨rfl, rfl⟩
    refine roK ?_
    refine TA.tk 8 1023 rfl rfl rfl (Val.add rfl rfl (r := q + 1) (w_i64 (by omega) (by omega))) ?_
    refine TA.one 10 (by kernel_rfl) ?_
    first
      | refine TO.dz 2047 none rfl rfl rfl rfl (Does.store (i := 0) rfl rfl rfl sz3 rfl rfl (by first | exact Nat.le_of_ble_eq_true rfl | decide | omega) rfl rfl) ?_
      | refine TO.dz 2047 none rfl rfl rfl rfl (Does.store (i := 1) rfl rfl rfl sz3 rfl rfl (by first | exact Nat.le_of_ble_eq_true rfl | decide | omega) rfl rfl) ?_
      | refine TO.dz 2047 none rfl rfl rfl rfl (Does.store (i := 2) rfl rfl rfl sz3 rfl rfl (by first | exact Nat.le_of_ble_eq_true rfl | decide | omega) rfl rfl) ?_
      | refine TO.dz 2047 none rfl rfl rfl rfl (Does.store (i := 3) rfl rfl rfl sz3 rfl rfl (by first | exact Nat.le_of_ble_eq_true rfl | decide | omega) rfl rfl) ?_
      | refine TO.dz 2047 none rfl rfl rfl rfl (Does.store (i := 4) rfl rfl rfl sz3 rfl rfl (by first | exact Nat.le_of_ble_eq_true rfl | decide | omega) rfl rfl) ?_
      | refine TO.dz 2047 none rfl rfl rfl rfl (Does.store (i := 5) rfl rfl rfl sz3 rfl rfl (by first | exact Nat.le_of_ble_eq_true rfl | decide | omega) rfl rfl) ?_
    rintro _ _ ⟨rfl, rfl⟩
    refine roK ?_
    refine TA.tk 11 4095 rfl rfl rfl (Val.fieldAddr rfl fl61_3 sz2 rfl) ?_
    refine TA.one 12 (by kernel_rfl) ?_
    first
      | refine TO.dz 8191 none rfl rfl rfl rfl (Does.store (i := 0) rfl rfl rfl sz2 rfl rfl (by first | exact Nat.le_of_ble_eq_true rfl | decide | omega) rfl rfl) ?_
      | refine TO.dz 8191 none rfl rfl rfl rfl (Does.store (i := 1) rfl rfl rfl sz2 rfl rfl (by first | exact Nat.le_of_ble_eq_true rfl | decide | omega) rfl rfl) ?_
      | refine TO.dz 8191 none rfl rfl rfl rfl (Does.store (i := 2) rfl rfl rfl sz2 rfl rfl (by first | exact Nat.le_of_ble_eq_true rfl | decide | omega) rfl rfl) ?_
      | refine TO.dz 8191 none rfl rfl rfl rfl (Does.store (i := 3) rfl rfl rfl sz2 rfl rfl (by first | exact Nat.le_of_ble_eq_true rfl | decide | omega) rfl rfl) ?_
      | refine TO.dz 8191 none rfl rfl rfl rfl (Does.store (i := 4) rfl rfl rfl sz2 rfl rfl (by first | exact Nat.le_of_ble_eq_true rfl | decide | omega) rfl rfl) ?_
      | refine TO.dz 8191 none rfl rfl rfl rfl (Does.store (i := 5) rfl rfl rfl sz2 rfl rfl (by first | exact Nat.le_of_ble_eq_true rfl | decide | omega) rfl rfl) ?_
    rintro _ _ ⟨rfl, rfl⟩
    refine roK ?_
    refine TA.done (by kernel_rfl) ?_
    refine AtX.then ?_
    refine TC.env (E' := [(0, _), (3, _), (4, _), (5, _)]) (Sub.cons rfl (Sub.cons rfl (Sub.cons rfl (Sub.cons rfl (Sub.nil _))))) ?_
    refine TC.seq ?_
    refine TC.drawLM mixed 20 ?_
    refine TA.tk 0 1 rfl rfl rfl (Val.move rfl) ?_
    refine TA.tk 1 3 rfl rfl rfl (Val.nilCheck rfl) ?_
    refine TA.tk 2 7 rfl rfl rfl (Val.fieldAddr rfl fl121_0 sz24 rfl) ?_
    refine TA.tk 3 15 rfl rfl rfl (Val.load (i + 1) rfl ag24 hi rfl) ?_
    refine TA.tk 4 31 rfl rfl rfl (Val.move rfl) ?_
    refine TA.tk 5 63 rfl rfl rfl (Val.nilCheck rfl) ?_
    refine TA.tk 6 127 rfl rfl rfl (Val.fieldAddr rfl fl121_1 sz3 rfl) ?_
    refine TA.tk 7 255 rfl rfl rfl (Val.load (i + 1) rfl ag3 hi rfl) ?_
    refine TA.tk 8 511 rfl rfl rfl (Val.move rfl) ?_
    refine TA.tk 9 1023 rfl rfl rfl (Val.nilCheck rfl) ?_
    refine TA.tk 10 2047 rfl rfl rfl (Val.fieldAddr rfl fl121_2 sz3 rfl) ?_
    refine TA.tk 11 4095 rfl rfl rfl (Val.load (i + 1) rfl ag3 hi rfl) ?_
    first
      | refine TA.tk 13 12287 rfl rfl rfl (Val.loadAgg 0 rfl ag61 sz61 rfl rfl rfl) ?_
      | refine TA.tk 13 12287 rfl rfl rfl (Val.loadAgg 1 rfl ag61 sz61 rfl rfl rfl) ?_
      | refine TA.tk 13 12287 rfl rfl rfl (Val.loadAgg 2 rfl ag61 sz61 rfl rfl rfl) ?_
      | refine TA.tk 13 12287 rfl rfl rfl (Val.loadAgg 3 rfl ag61 sz61 rfl rfl rfl) ?_
      | refine TA.tk 13 12287 rfl rfl rfl (Val.loadAgg 4 rfl ag61 sz61 rfl rfl rfl) ?_
      | refine TA.tk 13 12287 rfl rfl rfl (Val.loadAgg 5 rfl ag61 sz61 rfl rfl rfl) ?_
    refine TA.one 12 (by kernel_rfl) ?_
    refine TO.dz 16383 (some 34) rfl rfl rfl rfl (Does.callF go37 rfl (Of_fn s w g _)) ?_
    rintro _ _ ⟨rfl, rfl⟩
    refine roK ?_
    refine TA.one 14 (by kernel_rfl) ?_
    refine TO.dz 32767 (some 36) rfl rfl rfl rfl (Does.callF go36 rfl (wSeal_fn (macKey s w g) ⟨m.kind, w, m.gen, q + 1, m.epoch, m.value, m.metric⟩ _ hm)) ?_
    rintro _ _ ⟨bE, cE, spE, rfl, hcE, rfl⟩
    refine roK ?_
    refine TA.tk 15 65535 rfl rfl rfl (Val.move rfl) ?_
    refine TA.tk 16 131071 rfl rfl rfl (Val.extract rfl rfl) ?_
    refine TA.tk 17 262143 rfl rfl rfl (Val.extract rfl rfl) ?_
    refine TA.tk 18 524287 rfl rfl rfl (Val.assign rfl) ?_
    refine TA.tk 19 1048575 rfl rfl rfl (Val.assign rfl) ?_
    refine TA.done (by kernel_rfl) ?_
    refine AtX.then ?_
    refine TC.env (E' := [(0, _), (4, _), (5, _), (6, _), (7, _)]) (Sub.cons rfl (Sub.cons rfl (Sub.cons rfl (Sub.cons rfl (Sub.cons rfl (Sub.nil _)))))) ?_
    refine TC.seq ?_
    refine TC.seq ?_
    refine TC.region ?_
    refine TL.val rfl rfl (Nat.le_of_ble_eq_true rfl) (Val.move rfl) ?_
    refine TL.val rfl rfl (Nat.le_of_ble_eq_true rfl) (Val.eqlI rfl rfl) ?_
    refine TL.nil ?_
    refine AtX.then ?_
    refine TC.env (E' := [(0, _), (4, _), (5, _), (6, _), (7, _), (40, _)]) (Sub.cons rfl (Sub.cons rfl (Sub.cons rfl (Sub.cons rfl (Sub.cons rfl (Sub.cons rfl (Sub.nil _))))))) ?_
    first | refine TC.condP rfl (fun c2 => ?_) (fun c2 => ?_) | refine TC.condN rfl (fun c2 => ?_) (fun c2 => ?_) | refine TC.condB rfl (fun c2 => ?_) (fun c2 => ?_) | refine TC.cond rfl (fun c2 => ?_) (fun c2 => ?_)
    · skip
      refine TC.env (E' := [(0, _), (4, _), (5, _), (6, _), (7, _)]) (Sub.cons rfl (Sub.cons rfl (Sub.cons rfl (Sub.cons rfl (Sub.cons rfl (Sub.nil _)))))) ?_
      refine TC.region ?_
      refine TL.val rfl rfl (Nat.le_of_ble_eq_true rfl) (Val.move rfl) ?_
      refine TL.val rfl rfl (Nat.le_of_ble_eq_true rfl) (Val.nilCheck rfl) ?_
      refine TL.val rfl rfl (Nat.le_of_ble_eq_true rfl) (Val.fieldAddr rfl fl121_3 sz92 rfl) ?_
      refine TL.does (some 44) rfl rfl rfl (Does.callF go52 rfl (aAdd_fn b 3 (i + 2) _ _ q 1 (q + 1) _ hi rfl (w_i64 (by omega) (by omega)))) ?_
      rintro _ _ ⟨rfl, rfl⟩
      refine TL.nil ?_
      refine AtX.then ?_
      refine TC.env (E' := [(4, _), (5, _), (6, _), (7, _)]) (Sub.cons rfl (Sub.cons rfl (Sub.cons rfl (Sub.cons rfl (Sub.nil _))))) ?_
      refine TC.seq ?_
      refine TC.region ?_
      refine TL.val rfl rfl (Nat.le_of_ble_eq_true rfl) (Val.move rfl) ?_
      refine TL.val rfl rfl (Nat.le_of_ble_eq_true rfl) (Val.move rfl) ?_
      refine TL.val rfl rfl (Nat.le_of_ble_eq_true rfl) (Val.assign rfl) ?_
      refine TL.val rfl rfl (Nat.le_of_ble_eq_true rfl) (Val.assign rfl) ?_
      refine TL.nil ?_
      refine AtX.then ?_
      refine TC.env (E' := [(4, _), (5, _)]) (Sub.cons rfl (Sub.cons rfl (Sub.nil _))) ?_
      refine TC.ret2 (fn := Try.f62) (fun _ _ h => h) rfl (RV.tmp rfl) (RV.tmp rfl) (M' := (bE, row 5 (bv (sealB (macKey s w g) ⟨m.kind, w, m.gen, q + 1, m.epoch, m.value, m.metric⟩) ++ spE)) :: M.set i (sobj b s w g (q + 1))) (fun w h => ro_del 1 rfl w h) ?_
      exact ⟨bE, _, spE, rfl, hcE, rfl⟩
    · skip
      exact absurd rfl c2

/-- (*quorumite/seal.Sealer).Sample -/
theorem sSample_fn (b i : Nat) (s w g q : Int) (me e v : Int) (M : Hp) (hi : M[i]? = some (sobj b s w g q)) (hm : mayM ⟨1, w, g, q + 1, e, v, me⟩ = true) : FnC Try.prog 31 #[.pointer (some ⟨b, 0, none⟩), .int .i64 me, .int .i64 e, .int .i64 v] M (fun u M' => ∃ bE c sp, u = .tuple #[.slice (some ⟨bE, 0, none⟩) 48 c, .int .i64 0] ∧ 48 + sp.length = c ∧ M' = (bE, row 5 (bv (sealB (macKey s w g) ⟨1, w, g, q + 1, e, v, me⟩) ++ sp)) :: M.set i (sobj b s w g (q + 1))) := by
  obtain ⟨hk, hw, hg, hs, he, hme, hv⟩ := mayM_iff.1 hm
  simp only at hk hw hg hs he hme hv
  refine FnC.intro Try.func31 rfl 21 rfl (by simp) (fun z => ?_)
  refine TC.env (E' := [(0, _), (1, _), (2, _), (3, _)]) (Sub.cons rfl (Sub.cons rfl (Sub.cons rfl (Sub.cons rfl (Sub.nil _))))) ?_
  refine TC.seq ?_
  refine TC.region ?_
  refine TL.val rfl rfl (Nat.le_of_ble_eq_true rfl) (Val.assign rfl) ?_
  refine TL.val rfl rfl (Nat.le_of_ble_eq_true rfl) (Val.assign rfl) ?_
  refine TL.nil ?_
  refine AtX.then ?_
  refine TC.seq ?_
  refine TC.region ?_
  refine TL.val rfl rfl (Nat.le_of_ble_eq_true rfl) (Val.move rfl) ?_
  refine TL.val rfl rfl (Nat.le_of_ble_eq_true rfl) (Val.move rfl) ?_
  refine TL.does (some 12) rfl rfl rfl (Does.callF go48 rfl (Gen_fn b i s w g q _ hi)) ?_
  rintro _ _ ⟨rfl, rfl⟩
  refine TL.val rfl rfl (Nat.le_of_ble_eq_true rfl) (Val.max rfl rfl (r := g) (by split <;> omega)) ?_
  refine TL.val rfl rfl (Nat.le_of_ble_eq_true rfl) (Val.move rfl) ?_
  refine TL.val rfl rfl (Nat.le_of_ble_eq_true rfl) (Val.move rfl) ?_
  refine TL.val rfl rfl (Nat.le_of_ble_eq_true rfl) (Val.move rfl) ?_
  refine TL.val rfl rfl (Nat.le_of_ble_eq_true rfl) (Val.buildS pl61 ze61 rfl rfl) ?_
  refine TL.does (some 18) rfl rfl rfl (Does.callF go62 rfl (sSeal_fn b i s w g q ⟨1, 0, g, 0, e, v, me⟩ _ hi hm)) ?_
  rintro _ _ ⟨bE, cE, spE, rfl, hcE, rfl⟩
  refine TL.val rfl rfl (Nat.le_of_ble_eq_true rfl) (Val.extract rfl rfl) ?_
  refine TL.val rfl rfl (Nat.le_of_ble_eq_true rfl) (Val.extract rfl rfl) ?_
  refine TL.val rfl rfl (Nat.le_of_ble_eq_true rfl) (Val.assign rfl) ?_
  refine TL.val rfl rfl (Nat.le_of_ble_eq_true rfl) (Val.assign rfl) ?_
  refine TL.nil ?_
  refine AtX.then ?_
  refine TC.env (E' := [(8, _), (9, _)]) (Sub.cons rfl (Sub.cons rfl (Sub.nil _))) ?_
  refine TC.ret2 (fn := Try.f31) (fun _ _ h => h) rfl (RV.tmp rfl) (RV.tmp rfl) (fun _ h => h) ?_
  exact ⟨bE, _, spE, rfl, hcE, rfl⟩

/-- (*quorumite/seal.Sealer).Rotate -/
theorem sRotate_fn (b i : Nat) (s w g q : Int) (e : Int) (M : Hp) (hi : M[i]? = some (sobj b s w g q)) (hm : mayM ⟨2, w, g + 1, q + 1, e, 0, 0⟩ = true) : FnC Try.prog 34 #[.pointer (some ⟨b, 0, none⟩), .int .i64 e] M (fun v M' => ∃ bE c sp, v = .tuple #[.slice (some ⟨bE, 0, none⟩) 48 c, .int .i64 0] ∧ 48 + sp.length = c ∧ M' = (bE, row 5 (bv (sealB (macKey s w g) ⟨2, w, g + 1, q + 1, e, 0, 0⟩) ++ sp)) :: M.set i (sobj b s w (g + 1) 0)) := by
  obtain ⟨hk, hw, hg, hs, he, hme, hv⟩ := mayM_iff.1 hm
  simp only at hk hw hg hs he hme hv
  have hlt : i < M.length := (List.getElem?_eq_some_iff.1 hi).1
  refine FnC.intro Try.func34 rfl 33 rfl (by simp) (fun z => ?_)
  refine TC.env (E' := [(0, _), (1, _)]) (Sub.cons rfl (Sub.cons rfl (Sub.nil _))) ?_
  refine TC.seq ?_
  refine TC.region ?_
  refine TL.val rfl rfl (Nat.le_of_ble_eq_true rfl) (Val.assign rfl) ?_
  refine TL.val rfl rfl (Nat.le_of_ble_eq_true rfl) (Val.assign rfl) ?_
  refine TL.nil ?_
  refine AtX.then ?_
  refine TC.seq ?_
  refine TC.region ?_
  refine TL.val rfl rfl (Nat.le_of_ble_eq_true rfl) (Val.move rfl) ?_
  refine TL.val rfl rfl (Nat.le_of_ble_eq_true rfl) (Val.move rfl) ?_
  refine TL.does (some 11) rfl rfl rfl (Does.callF go48 rfl (Gen_fn b i s w g q _ hi)) ?_
  rintro _ _ ⟨rfl, rfl⟩
  refine TL.val rfl rfl (Nat.le_of_ble_eq_true rfl) (Val.add rfl rfl (r := g + 1) (w_i64 (by omega) (by omega))) ?_
  refine TL.val rfl rfl (Nat.le_of_ble_eq_true rfl) (Val.move rfl) ?_
  refine TL.val rfl rfl (Nat.le_of_ble_eq_true rfl) (Val.buildS pl61 ze61 rfl rfl) ?_
  refine TL.does (some 15) rfl rfl rfl (Does.callF go62 rfl (sSeal_fn b i s w g q ⟨2, 0, g + 1, 0, e, 0, 0⟩ _ hi hm)) ?_
  rintro _ _ ⟨bE, cE, spE, rfl, hcE, rfl⟩
  refine TL.val rfl rfl (Nat.le_of_ble_eq_true rfl) (Val.move rfl) ?_
  refine TL.val rfl rfl (Nat.le_of_ble_eq_true rfl) (Val.extract rfl rfl) ?_
  refine TL.val rfl rfl (Nat.le_of_ble_eq_true rfl) (Val.extract rfl rfl) ?_
  refine TL.val rfl rfl (Nat.le_of_ble_eq_true rfl) (Val.assign rfl) ?_
  refine TL.val rfl rfl (Nat.le_of_ble_eq_true rfl) (Val.assign rfl) ?_
  refine TL.nil ?_
  refine AtX.then ?_
  refine TC.env (E' := [(0, _), (4, _), (5, _), (6, _), (7, _)]) (Sub.cons rfl (Sub.cons rfl (Sub.cons rfl (Sub.cons rfl (Sub.cons rfl (Sub.nil _)))))) ?_
  refine TC.seq ?_
  refine TC.seq ?_
  refine TC.region ?_
  refine TL.val rfl rfl (Nat.le_of_ble_eq_true rfl) (Val.move rfl) ?_
  refine TL.val rfl rfl (Nat.le_of_ble_eq_true rfl) (Val.eqlI rfl rfl) ?_
  refine TL.nil ?_
  refine AtX.then ?_
  refine TC.env (E' := [(0, _), (4, _), (5, _), (6, _), (7, _), (19, _)]) (Sub.cons rfl (Sub.cons rfl (Sub.cons rfl (Sub.cons rfl (Sub.cons rfl (Sub.cons rfl (Sub.nil _))))))) ?_
  first | refine TC.condP rfl (fun c1 => ?_) (fun c1 => ?_) | refine TC.condN rfl (fun c1 => ?_) (fun c1 => ?_) | refine TC.condB rfl (fun c1 => ?_) (fun c1 => ?_) | refine TC.cond rfl (fun c1 => ?_) (fun c1 => ?_)
  · skip
    refine TC.env (E' := [(0, _), (4, _), (5, _), (6, _), (7, _)]) (Sub.cons rfl (Sub.cons rfl (Sub.cons rfl (Sub.cons rfl (Sub.cons rfl (Sub.nil _)))))) ?_
    refine TC.seq ?_
    have hi2 : ((bE, row 5 (bv (sealB (macKey s w g) ⟨2, w, g + 1, q + 1, e, 0, 0⟩) ++ spE)) :: M.set i (sobj b s w g (q + 1)))[i + 1]? = some (sobj b s w g (q + 1)) := by simp [hlt]
    refine TC.region ?_
    refine TL.val rfl rfl (Nat.le_of_ble_eq_true rfl) (Val.move rfl) ?_
    refine TL.val rfl rfl (Nat.le_of_ble_eq_true rfl) (Val.nilCheck rfl) ?_
    refine TL.val rfl rfl (Nat.le_of_ble_eq_true rfl) (Val.fieldAddr rfl fl121_2 sz3 rfl) ?_
    refine TL.val rfl rfl (Nat.le_of_ble_eq_true rfl) (Val.load (i + 1) rfl ag3 hi2 rfl) ?_
    refine TL.val rfl rfl (Nat.le_of_ble_eq_true rfl) (Val.add rfl rfl (r := g + 1) (w_i64 (by omega) (by omega))) ?_
    refine TL.val rfl rfl (Nat.le_of_ble_eq_true rfl) (Val.nilCheck rfl) ?_
    refine TL.val rfl rfl (Nat.le_of_ble_eq_true rfl) (Val.fieldAddr rfl fl121_2 sz3 rfl) ?_
    refine TL.does none rfl rfl rfl (Does.store (i := i + 1) (M' := (bE, row 5 (bv (sealB (macKey s w g) ⟨2, w, g + 1, q + 1, e, 0, 0⟩) ++ spE)) :: M.set i (sobj b s w (g + 1) (q + 1))) rfl rfl hi2 sz3 rfl rfl (by first | exact Nat.le_of_ble_eq_true rfl | decide | omega) rfl (by rw [List.set_cons_succ, List.set_set]; rfl)) ?_
    rintro _ _ ⟨rfl, rfl⟩
    refine TL.nil ?_
    refine AtX.then ?_
    refine TC.env (E' := [(0, _), (4, _), (5, _), (6, _), (7, _)]) (Sub.cons rfl (Sub.cons rfl (Sub.cons rfl (Sub.cons rfl (Sub.cons rfl (Sub.nil _)))))) ?_
    have hi3 : ((bE, row 5 (bv (sealB (macKey s w g) ⟨2, w, g + 1, q + 1, e, 0, 0⟩) ++ spE)) :: M.set i (sobj b s w (g + 1) (q + 1)))[i + 1]? = some (sobj b s w (g + 1) (q + 1)) := by simp [hlt]
    refine TC.region ?_
    refine TL.val rfl rfl (Nat.le_of_ble_eq_true rfl) (Val.move rfl) ?_
    refine TL.val rfl rfl (Nat.le_of_ble_eq_true rfl) (Val.nilCheck rfl) ?_
    refine TL.val rfl rfl (Nat.le_of_ble_eq_true rfl) (Val.fieldAddr rfl fl121_3 sz92 rfl) ?_
    refine TL.does (some 30) rfl rfl rfl (Does.callF go69 rfl (aStore_fn b 3 (i + 1) _ _ 0 _ hi3 (by simp))) ?_
    rintro _ _ ⟨rfl, rfl⟩
    refine TL.nil ?_
    refine AtX.then ?_
    refine TC.env (E' := [(4, _), (5, _), (6, _), (7, _)]) (Sub.cons rfl (Sub.cons rfl (Sub.cons rfl (Sub.cons rfl (Sub.nil _))))) ?_
    refine TC.seq ?_
    refine TC.region ?_
    refine TL.val rfl rfl (Nat.le_of_ble_eq_true rfl) (Val.move rfl) ?_
    refine TL.val rfl rfl (Nat.le_of_ble_eq_true rfl) (Val.move rfl) ?_
    refine TL.val rfl rfl (Nat.le_of_ble_eq_true rfl) (Val.assign rfl) ?_
    refine TL.val rfl rfl (Nat.le_of_ble_eq_true rfl) (Val.assign rfl) ?_
    refine TL.nil ?_
    refine AtX.then ?_
    refine TC.env (E' := [(4, _), (5, _)]) (Sub.cons rfl (Sub.cons rfl (Sub.nil _))) ?_
    refine TC.ret2 (fn := Try.f34) (fun _ _ h => h) rfl (RV.tmp rfl) (RV.tmp rfl) (M' := (bE, row 5 (bv (sealB (macKey s w g) ⟨2, w, g + 1, q + 1, e, 0, 0⟩) ++ spE)) :: M.set i (sobj b s w (g + 1) 0)) (fun w h => by rw [List.set_cons_succ, List.set_set] at h; exact h) ?_
    exact ⟨bE, _, spE, rfl, hcE, rfl⟩
  · skip
    exact absurd rfl c1

end Go.Proofs.Ytphoapajlcaoeaa
