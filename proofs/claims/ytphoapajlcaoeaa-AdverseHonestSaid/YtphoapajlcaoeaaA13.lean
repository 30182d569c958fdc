/- walks -/
import Derived.Test.YtphoapajlcaoeaaA10
import Derived.Test.YtphoapajlcaoeaaA11
import Derived.Test.YtphoapajlcaoeaaES7
import Derived.Test.YtphoapajlcaoeaaE9d
set_option linter.unusedVariables false
set_option linter.unusedSimpArgs false
set_option maxRecDepth 100000
set_option maxHeartbeats 4000000
namespace Go.Proofs.Ytphoapajlcaoeaa
open Go Go.X
abbrev wob (b : Nat) (c : Cf) (A : Option Addr) (nl cl bb N : Nat) (σ : Sl) (nk : Nat) (n : Int) : Nat × Obj := (b, .cells #[.int .i64 (c.n), .int .i64 (c.f), .int .i64 (c.m), .int .i64 (c.quorum), .int .i64 (c.fresh), .int .i64 (c.grace), .int .i64 (c.window), .int .i64 (c.t0), .int .i64 (c.t1), .int .i64 (c.t2), .int .i64 (c.t3), .int .i64 (c.tol), .int .i64 (c.min), .int .i64 (c.max), .int .i64 (c.calmup), .int .i64 (c.calmdown), .int .i64 (c.podsup), .int .i64 (c.pctup), .int .i64 (c.podsdown), .int .i64 (c.pctdown), .int .i64 (c.period), .int .i64 (c.far), .int .i64 (c.strikes), .int .i64 (c.probe), .int .i64 (c.sectors), .int .u64 (c.seed), .slice A nl cl, .slice (some ⟨bb, 0, none⟩) N N, .slice (slA σ) nk (slC σ), .int .i64 n] 94 (0, 0))
abbrev sob (s : Int) (r : Sr) : Nat × Obj := sobj r.b s r.w r.g r.q
/-- quorumite/adverse.New -/
theorem wNew_nil (c : Cf) (M : Hp) (hn : 0 ≤ c.n ∧ c.n ≤ 1000) (hf : 0 ≤ c.f ∧ c.f ≤ 16) (ht : tg c) (h1 : c.n < 1) : FnC Try.prog 12 #[.agg #[.int .i64 (c.n), .int .i64 (c.f), .int .i64 (c.m), .int .i64 (c.quorum), .int .i64 (c.fresh), .int .i64 (c.grace), .int .i64 (c.window), .int .i64 (c.t0), .int .i64 (c.t1), .int .i64 (c.t2), .int .i64 (c.t3), .int .i64 (c.tol), .int .i64 (c.min), .int .i64 (c.max), .int .i64 (c.calmup), .int .i64 (c.calmdown), .int .i64 (c.podsup), .int .i64 (c.pctup), .int .i64 (c.podsdown), .int .i64 (c.pctdown), .int .i64 (c.period), .int .i64 (c.far), .int .i64 (c.strikes), .int .i64 (c.probe), .int .i64 (c.sectors), .int .u64 (c.seed)]] M (fun v M' => v = .pointer none ∧ M = M') := by
  refine FnC.intro Try.func12 rfl 34 rfl (by simp) (fun z => ?_)
  refine TC.env (E' := [(0, _)]) (Sub.cons rfl (Sub.nil _)) ?_
  refine TC.seq ?_
  refine TC.region ?_
  refine TL.does (some 1) rfl rfl rfl (Does.box rfl rfl) ?_
  rintro _ _ ⟨b1, rfl, rfl⟩
  refine TL.val rfl rfl (Nat.le_of_ble_eq_true rfl) (Val.assign rfl) ?_
  refine TL.nil ?_
  refine AtX.then ?_
  refine TC.env (E' := [(1, _), (2, _)]) (Sub.cons rfl (Sub.cons rfl (Sub.nil _))) ?_
  refine TC.seq ?_
  refine TC.seq ?_
  refine TC.region ?_
  first
    | refine TL.val rfl rfl (Nat.le_of_ble_eq_true rfl) (Val.loadAgg 0 rfl ag26 sz26 rfl rfl rfl) ?_
    | refine TL.val rfl rfl (Nat.le_of_ble_eq_true rfl) (Val.loadAgg 1 rfl ag26 sz26 rfl rfl rfl) ?_
    | refine TL.val rfl rfl (Nat.le_of_ble_eq_true rfl) (Val.loadAgg 2 rfl ag26 sz26 rfl rfl rfl) ?_
    | refine TL.val rfl rfl (Nat.le_of_ble_eq_true rfl) (Val.loadAgg 3 rfl ag26 sz26 rfl rfl rfl) ?_
    | refine TL.val rfl rfl (Nat.le_of_ble_eq_true rfl) (Val.loadAgg 4 rfl ag26 sz26 rfl rfl rfl) ?_
    | refine TL.val rfl rfl (Nat.le_of_ble_eq_true rfl) (Val.loadAgg 5 rfl ag26 sz26 rfl rfl rfl) ?_
  refine TL.does (some 6) rfl rfl rfl (Does.callF go44 rfl (cMay_no c _ hn hf ht h1)) ?_
  rintro _ _ ⟨rfl, rfl⟩
  refine TL.val rfl rfl (Nat.le_of_ble_eq_true rfl) (Val.not rfl) ?_
  refine TL.nil ?_
  refine AtX.then ?_
  refine TC.env (E' := [(1, _), (2, _), (7, _)]) (Sub.cons rfl (Sub.cons rfl (Sub.cons rfl (Sub.nil _)))) ?_
  first | refine TC.condP rfl (fun c1 => ?_) (fun c1 => ?_) | refine TC.condN rfl (fun c1 => ?_) (fun c1 => ?_) | refine TC.condB rfl (fun c1 => ?_) (fun c1 => ?_) | refine TC.cond rfl (fun c1 => ?_) (fun c1 => ?_)
  · skip
    refine TC.env (E' := [(1, _), (2, _)]) (Sub.cons rfl (Sub.cons rfl (Sub.nil _))) ?_
    refine TC.seq ?_
    refine TC.region ?_
    refine TL.val rfl rfl (Nat.le_of_ble_eq_true rfl) (Val.assign rfl) ?_
    refine TL.nil ?_
    refine AtX.then ?_
    refine TC.env (E' := [(1, _), (2, _)]) (Sub.cons rfl (Sub.cons rfl (Sub.nil _))) ?_
    refine TC.ret1 (fn := Try.f12) (fun _ _ h => h) rfl (RV.tmp rfl) (M' := M) (by repeat (first | exact ro_refl | exact ro_pre | refine ro_tail ?_ | refine ro_app ?_)) ?_
    exact ⟨rfl, rfl⟩
  · skip
    cases c1

/-- quorumite/adverse.New -/
theorem wNew_fn (c : Cf) (N : Nat) (M : Hp) (hc : OkC c) (hN : c.n = N) : FnC Try.prog 12 #[.agg #[.int .i64 (c.n), .int .i64 (c.f), .int .i64 (c.m), .int .i64 (c.quorum), .int .i64 (c.fresh), .int .i64 (c.grace), .int .i64 (c.window), .int .i64 (c.t0), .int .i64 (c.t1), .int .i64 (c.t2), .int .i64 (c.t3), .int .i64 (c.tol), .int .i64 (c.min), .int .i64 (c.max), .int .i64 (c.calmup), .int .i64 (c.calmdown), .int .i64 (c.podsup), .int .i64 (c.pctup), .int .i64 (c.podsdown), .int .i64 (c.pctdown), .int .i64 (c.period), .int .i64 (c.far), .int .i64 (c.strikes), .int .i64 (c.probe), .int .i64 (c.sectors), .int .u64 (c.seed)]] M (fun v M' => ∃ (b bl cl : Nat) (spl : List Value) (bb : Nat) (ss : List Sr), v = .pointer (some ⟨b, 0, none⟩) ∧ ss.length = N ∧ (∀ (k : Nat) (r : Sr), ss[k]? = some r → r.w = k ∧ r.g = 0 ∧ r.q = 0) ∧ M' = wob b c (some ⟨bl, 0, none⟩) N cl bb N none 0 0 :: (bb, row 4 ((List.replicate N false).map Value.bool)) :: (bl, row 57 (ss.map Sr.ptr ++ spl)) :: (ss.map (sob c.seed) ++ M)) := by
  have hn16 := hc.n
  refine FnC.intro Try.func12 rfl 34 rfl (by simp) (fun z => ?_)
  refine TC.env (E' := [(0, _)]) (Sub.cons rfl (Sub.nil _)) ?_
  refine TC.seq ?_
  refine TC.region ?_
  refine TL.does (some 1) rfl rfl rfl (Does.box rfl rfl) ?_
  rintro _ _ ⟨b1, rfl, rfl⟩
  refine TL.val rfl rfl (Nat.le_of_ble_eq_true rfl) (Val.assign rfl) ?_
  refine TL.nil ?_
  refine AtX.then ?_
  refine TC.env (E' := [(1, _), (2, _)]) (Sub.cons rfl (Sub.cons rfl (Sub.nil _))) ?_
  refine TC.seq ?_
  refine TC.seq ?_
  refine TC.region ?_
  first
    | refine TL.val rfl rfl (Nat.le_of_ble_eq_true rfl) (Val.loadAgg 0 rfl ag26 sz26 rfl rfl rfl) ?_
    | refine TL.val rfl rfl (Nat.le_of_ble_eq_true rfl) (Val.loadAgg 1 rfl ag26 sz26 rfl rfl rfl) ?_
    | refine TL.val rfl rfl (Nat.le_of_ble_eq_true rfl) (Val.loadAgg 2 rfl ag26 sz26 rfl rfl rfl) ?_
    | refine TL.val rfl rfl (Nat.le_of_ble_eq_true rfl) (Val.loadAgg 3 rfl ag26 sz26 rfl rfl rfl) ?_
    | refine TL.val rfl rfl (Nat.le_of_ble_eq_true rfl) (Val.loadAgg 4 rfl ag26 sz26 rfl rfl rfl) ?_
    | refine TL.val rfl rfl (Nat.le_of_ble_eq_true rfl) (Val.loadAgg 5 rfl ag26 sz26 rfl rfl rfl) ?_
  refine TL.does (some 6) rfl rfl rfl (Does.callF go44 rfl (cMay_ok c _ hc)) ?_
  rintro _ _ ⟨rfl, rfl⟩
  refine TL.val rfl rfl (Nat.le_of_ble_eq_true rfl) (Val.not rfl) ?_
  refine TL.nil ?_
  refine AtX.then ?_
  refine TC.env (E' := [(1, _), (2, _), (7, _)]) (Sub.cons rfl (Sub.cons rfl (Sub.cons rfl (Sub.nil _)))) ?_
  first | refine TC.condP rfl (fun c1 => ?_) (fun c1 => ?_) | refine TC.condN rfl (fun c1 => ?_) (fun c1 => ?_) | refine TC.condB rfl (fun c1 => ?_) (fun c1 => ?_) | refine TC.cond rfl (fun c1 => ?_) (fun c1 => ?_)
  · skip
    cases c1
  · skip
    refine TC.env (E' := [(1, _), (2, _)]) (Sub.cons rfl (Sub.cons rfl (Sub.nil _))) ?_
    refine TC.skip ?_
    refine AtX.then ?_
    refine TC.env (E' := [(1, _), (2, _)]) (Sub.cons rfl (Sub.cons rfl (Sub.nil _))) ?_
    refine TC.seq ?_
    refine TC.drawL ((b1, .cells #[.int .i64 (c.n), .int .i64 (c.f), .int .i64 (c.m), .int .i64 (c.quorum), .int .i64 (c.fresh), .int .i64 (c.grace), .int .i64 (c.window), .int .i64 (c.t0), .int .i64 (c.t1), .int .i64 (c.t2), .int .i64 (c.t3), .int .i64 (c.tol), .int .i64 (c.min), .int .i64 (c.max), .int .i64 (c.calmup), .int .i64 (c.calmdown), .int .i64 (c.podsup), .int .i64 (c.pctup), .int .i64 (c.podsdown), .int .i64 (c.pctdown), .int .i64 (c.period), .int .i64 (c.far), .int .i64 (c.strikes), .int .i64 (c.probe), .int .i64 (c.sectors), .int .u64 (c.seed)] 26 (0, 0)) :: M) mixed 7 ?_
    refine TA.tk 0 1 rfl rfl rfl (Val.loadAgg (vs := [.int .i64 (c.n), .int .i64 (c.f), .int .i64 (c.m), .int .i64 (c.quorum), .int .i64 (c.fresh), .int .i64 (c.grace), .int .i64 (c.window), .int .i64 (c.t0), .int .i64 (c.t1), .int .i64 (c.t2), .int .i64 (c.t3), .int .i64 (c.tol), .int .i64 (c.min), .int .i64 (c.max), .int .i64 (c.calmup), .int .i64 (c.calmdown), .int .i64 (c.podsup), .int .i64 (c.pctup), .int .i64 (c.podsdown), .int .i64 (c.pctdown), .int .i64 (c.period), .int .i64 (c.far), .int .i64 (c.strikes), .int .i64 (c.probe), .int .i64 (c.sectors), .int .u64 (c.seed)]) 0 rfl ag26 sz26 rfl rfl rfl) ?_
    refine TA.tk 1 3 rfl rfl rfl (Val.fieldAddr rfl fl26_0 sz3 rfl) ?_
    first
      | refine TA.tk 2 7 rfl rfl rfl (Val.load 0 rfl ag3 rfl rfl) ?_
      | refine TA.tk 2 7 rfl rfl rfl (Val.load 1 rfl ag3 rfl rfl) ?_
      | refine TA.tk 2 7 rfl rfl rfl (Val.load 2 rfl ag3 rfl rfl) ?_
      | refine TA.tk 2 7 rfl rfl rfl (Val.load 3 rfl ag3 rfl rfl) ?_
      | refine TA.tk 2 7 rfl rfl rfl (Val.load 4 rfl ag3 rfl rfl) ?_
      | refine TA.tk 2 7 rfl rfl rfl (Val.load 5 rfl ag3 rfl rfl) ?_
    refine TA.one 3 (by kernel_rfl) ?_
    refine TO.dz 15 (some 11) rfl rfl rfl rfl (Does.makeSlice (n := N) (c := N) rfl rfl sl85 sz4 by4 ze4 rfl hN hN (by omega) (by omega) (by omega)) ?_
    rintro _ _ ⟨b4, rfl, rfl⟩
    rw [show zrep (Value.bool false).cells.toList N = (List.replicate N false).map Value.bool from zrep_bool N]
    refine roK ?_
    refine TA.tk 4 31 rfl rfl rfl (Val.buildS (cs := [.int .i64 (c.n), .int .i64 (c.f), .int .i64 (c.m), .int .i64 (c.quorum), .int .i64 (c.fresh), .int .i64 (c.grace), .int .i64 (c.window), .int .i64 (c.t0), .int .i64 (c.t1), .int .i64 (c.t2), .int .i64 (c.t3), .int .i64 (c.tol), .int .i64 (c.min), .int .i64 (c.max), .int .i64 (c.calmup), .int .i64 (c.calmdown), .int .i64 (c.podsup), .int .i64 (c.pctup), .int .i64 (c.podsdown), .int .i64 (c.pctdown), .int .i64 (c.period), .int .i64 (c.far), .int .i64 (c.strikes), .int .i64 (c.probe), .int .i64 (c.sectors), .int .u64 (c.seed), .slice none 0 0, .slice (some ⟨b4, 0, none⟩) N N, .slice none 0 0, .int .i64 0]) pl94 ze94 rfl (fill_step (pre := []) (mid := [.int .i64 (0), .int .i64 (0), .int .i64 (0), .int .i64 (0), .int .i64 (0), .int .i64 (0), .int .i64 (0), .int .i64 (0), .int .i64 (0), .int .i64 (0), .int .i64 (0), .int .i64 (0), .int .i64 (0), .int .i64 (0), .int .i64 (0), .int .i64 (0), .int .i64 (0), .int .i64 (0), .int .i64 (0), .int .i64 (0), .int .i64 (0), .int .i64 (0), .int .i64 (0), .int .i64 (0), .int .i64 (0), .int .u64 (0)]) (post := [.slice none 0 0, .slice none 0 0, .slice none 0 0, .int .i64 0]) rfl rfl rfl rfl (fill_step (pre := [.int .i64 (c.n), .int .i64 (c.f), .int .i64 (c.m), .int .i64 (c.quorum), .int .i64 (c.fresh), .int .i64 (c.grace), .int .i64 (c.window), .int .i64 (c.t0), .int .i64 (c.t1), .int .i64 (c.t2), .int .i64 (c.t3), .int .i64 (c.tol), .int .i64 (c.min), .int .i64 (c.max), .int .i64 (c.calmup), .int .i64 (c.calmdown), .int .i64 (c.podsup), .int .i64 (c.pctup), .int .i64 (c.podsdown), .int .i64 (c.pctdown), .int .i64 (c.period), .int .i64 (c.far), .int .i64 (c.strikes), .int .i64 (c.probe), .int .i64 (c.sectors), .int .u64 (c.seed), .slice none 0 0]) (mid := [.slice none 0 0]) (post := [.slice none 0 0, .int .i64 0]) rfl rfl rfl rfl rfl))) ?_
    refine TA.one 5 (by kernel_rfl) ?_
    refine TO.dz 63 (some 13) rfl rfl rfl rfl (Does.box rfl rfl) ?_
    rintro _ _ ⟨b6, rfl, rfl⟩
    refine roK ?_
    refine TA.tk 6 127 rfl rfl rfl (Val.assign rfl) ?_
    refine TA.done (by kernel_rfl) ?_
    refine AtX.then ?_
    refine TC.env (E' := [(1, _), (2, _), (3, _)]) (Sub.cons rfl (Sub.cons rfl (Sub.cons rfl (Sub.nil _)))) ?_
    refine TC.seq ?_
    refine TC.seq ?_
    refine TC.heap (M' := wob b6 c none 0 0 b4 N none 0 0 :: (b4, row 4 ((List.replicate N false).map Value.bool)) :: (b1, .cells #[.int .i64 (c.n), .int .i64 (c.f), .int .i64 (c.m), .int .i64 (c.quorum), .int .i64 (c.fresh), .int .i64 (c.grace), .int .i64 (c.window), .int .i64 (c.t0), .int .i64 (c.t1), .int .i64 (c.t2), .int .i64 (c.t3), .int .i64 (c.tol), .int .i64 (c.min), .int .i64 (c.max), .int .i64 (c.calmup), .int .i64 (c.calmdown), .int .i64 (c.podsup), .int .i64 (c.pctup), .int .i64 (c.podsdown), .int .i64 (c.pctdown), .int .i64 (c.period), .int .i64 (c.far), .int .i64 (c.strikes), .int .i64 (c.probe), .int .i64 (c.sectors), .int .u64 (c.seed)] 26 (0, 0)) :: M) (fun w h => h) ?_
    refine TC.region ?_
    refine TL.val rfl rfl (Nat.le_of_ble_eq_true rfl) (Val.fieldAddr rfl fl26_0 sz3 rfl) ?_
    first
      | refine TL.val rfl rfl (Nat.le_of_ble_eq_true rfl) (Val.load 0 rfl ag3 rfl rfl) ?_
      | refine TL.val rfl rfl (Nat.le_of_ble_eq_true rfl) (Val.load 1 rfl ag3 rfl rfl) ?_
      | refine TL.val rfl rfl (Nat.le_of_ble_eq_true rfl) (Val.load 2 rfl ag3 rfl rfl) ?_
      | refine TL.val rfl rfl (Nat.le_of_ble_eq_true rfl) (Val.load 3 rfl ag3 rfl rfl) ?_
      | refine TL.val rfl rfl (Nat.le_of_ble_eq_true rfl) (Val.load 4 rfl ag3 rfl rfl) ?_
      | refine TL.val rfl rfl (Nat.le_of_ble_eq_true rfl) (Val.load 5 rfl ag3 rfl rfl) ?_
    refine TL.val rfl rfl (Nat.le_of_ble_eq_true rfl) (Val.move rfl) ?_
    refine TL.nil ?_
    refine AtX.then ?_
    refine TC.env (E' := [(1, _), (2, _), (3, _), (15, _), (16, _)]) (Sub.cons rfl (Sub.cons rfl (Sub.cons rfl (Sub.cons rfl (Sub.cons rfl (Sub.nil _)))))) ?_
    refine TC.block ?_
    refine TC.loop (ι := (Nat × Sl × List Sr)) (fun i => [(1, .pointer (some ⟨b1, 0, none⟩)), (3, .pointer (some ⟨b6, 0, none⟩)), (15, .int .i64 c.n), (16, .int .i64 (i.1 : Nat))]) (fun i => wob b6 c (slA i.2.1) i.1 (slC i.2.1) b4 N none 0 0 :: (b4, row 4 ((List.replicate N false).map Value.bool)) :: (b1, .cells #[.int .i64 (c.n), .int .i64 (c.f), .int .i64 (c.m), .int .i64 (c.quorum), .int .i64 (c.fresh), .int .i64 (c.grace), .int .i64 (c.window), .int .i64 (c.t0), .int .i64 (c.t1), .int .i64 (c.t2), .int .i64 (c.t3), .int .i64 (c.tol), .int .i64 (c.min), .int .i64 (c.max), .int .i64 (c.calmup), .int .i64 (c.calmdown), .int .i64 (c.podsup), .int .i64 (c.pctup), .int .i64 (c.podsdown), .int .i64 (c.pctdown), .int .i64 (c.period), .int .i64 (c.far), .int .i64 (c.strikes), .int .i64 (c.probe), .int .i64 (c.sectors), .int .u64 (c.seed)] 26 (0, 0)) :: (slH i.2.1 57 (i.2.2.map Sr.ptr) ++ (i.2.2.map (sob c.seed) ++ M))) (fun i => i.1 ≤ N ∧ i.2.2.length = i.1 ∧ slOk i.2.1 1 i.1 (i.2.2.map Sr.ptr) ∧ ∀ (j : Nat) (r : Sr), i.2.2[j]? = some r → r.w = j ∧ r.g = 0 ∧ r.q = 0) (fun i => N - i.1) (0, none, []) ?_ (Sub.cons rfl (Sub.cons rfl (Sub.cons rfl (Sub.cons rfl (Sub.nil _))))) (fun _ h => h) ?_
    · exact ⟨by omega, rfl, slOk_nil 1, fun j r h => by simp at h⟩
    rintro ⟨k, σ, ss⟩ ⟨hk, hss, hok, hw⟩
    dsimp only at hk hss hok hw ⊢
    refine TC.seq ?_
    refine TC.region ?_
    refine TL.val rfl rfl (Nat.le_of_ble_eq_true rfl) (Val.lss rfl rfl) ?_
    refine TL.nil ?_
    refine AtX.then ?_
    refine TC.seq ?_
    first | refine TC.condP rfl (fun c2 => ?_) (fun c2 => ?_) | refine TC.condN rfl (fun c2 => ?_) (fun c2 => ?_) | refine TC.condB rfl (fun c2 => ?_) (fun c2 => ?_) | refine TC.cond rfl (fun c2 => ?_) (fun c2 => ?_)
    · skip
      refine TC.skip ?_
      refine AtX.then ?_
      refine TC.seq ?_
      refine TC.block ?_
      refine TC.seq ?_
      refine TC.region ?_
      refine TL.val rfl rfl (Nat.le_of_ble_eq_true rfl) (Val.move rfl) ?_
      refine TL.val rfl rfl (Nat.le_of_ble_eq_true rfl) (Val.assign rfl) ?_
      refine TL.nil ?_
      refine AtX.then ?_
      refine TC.drawGM [13] [wob b6 c (slA σ) k (slC σ) b4 N none 0 0, (b4, row 4 ((List.replicate N false).map Value.bool)), (b1, .cells #[.int .i64 (c.n), .int .i64 (c.f), .int .i64 (c.m), .int .i64 (c.quorum), .int .i64 (c.fresh), .int .i64 (c.grace), .int .i64 (c.window), .int .i64 (c.t0), .int .i64 (c.t1), .int .i64 (c.t2), .int .i64 (c.t3), .int .i64 (c.tol), .int .i64 (c.min), .int .i64 (c.max), .int .i64 (c.calmup), .int .i64 (c.calmdown), .int .i64 (c.podsup), .int .i64 (c.pctup), .int .i64 (c.podsdown), .int .i64 (c.pctdown), .int .i64 (c.period), .int .i64 (c.far), .int .i64 (c.strikes), .int .i64 (c.probe), .int .i64 (c.sectors), .int .u64 (c.seed)] 26 (0, 0))] [] mixed 14 ?_
      refine TG.tk false 0 1 rfl rfl rfl (Val.move rfl) ?_ (hro := (by first | exact Go.X.ro_nil | (repeat (first | exact Go.X.ro_pre3 | refine Go.X.ro_tail ?_ | refine Go.X.ro_app ?_))))
      refine TG.tk false 1 3 rfl rfl rfl (Val.move rfl) ?_ (hro := (by first | exact Go.X.ro_nil | (repeat (first | exact Go.X.ro_pre3 | refine Go.X.ro_tail ?_ | refine Go.X.ro_app ?_))))
      refine TG.tk false 2 7 rfl rfl rfl (Val.nilCheck rfl) ?_ (hro := (by first | exact Go.X.ro_nil | (repeat (first | exact Go.X.ro_pre3 | refine Go.X.ro_tail ?_ | refine Go.X.ro_app ?_))))
      refine TG.tk false 3 15 rfl rfl rfl (Val.fieldAddr rfl fl94_1 sz86 rfl) ?_ (hro := (by first | exact Go.X.ro_nil | (repeat (first | exact Go.X.ro_pre3 | refine Go.X.ro_tail ?_ | refine Go.X.ro_app ?_))))
      refine TG.tk false 4 31 rfl rfl rfl (Val.load 0 rfl ag86 rfl rfl) ?_ (hro := (by first | exact Go.X.ro_nil | (repeat (first | exact Go.X.ro_pre3 | refine Go.X.ro_tail ?_ | refine Go.X.ro_app ?_))))
      refine TG.tk false 5 63 rfl rfl rfl (Val.fieldAddr rfl fl26_22 sz24 rfl) ?_ (hro := (by first | exact Go.X.ro_nil | (repeat (first | exact Go.X.ro_pre3 | refine Go.X.ro_tail ?_ | refine Go.X.ro_app ?_))))
      refine TG.tk false 6 127 rfl rfl rfl (Val.load 2 rfl ag24 rfl rfl) ?_ (hro := (by first | exact Go.X.ro_nil | (repeat (first | exact Go.X.ro_pre3 | refine Go.X.ro_tail ?_ | refine Go.X.ro_app ?_))))
      refine TG.tk false 7 255 rfl rfl rfl (Val.move rfl) ?_ (hro := (by first | exact Go.X.ro_nil | (repeat (first | exact Go.X.ro_pre3 | refine Go.X.ro_tail ?_ | refine Go.X.ro_app ?_))))
      refine TG.one 8 (by kernel_rfl) ?_
      refine TP.dz false 511 (some 27) rfl rfl rfl rfl (Does.callF go30 rfl (sNew_fn c.seed k _ (by omega))) ?_
      rintro _ _ ⟨bs, rfl, rfl⟩
      refine ⟨(by first | exact Go.X.ro_nil | (repeat (first | exact Go.X.ro_pre3 | refine Go.X.ro_tail ?_ | refine Go.X.ro_app ?_))), ?_⟩
      refine TG.one 9 (by kernel_rfl) ?_
      refine TP.dz false 1023 (some 28) rfl rfl rfl rfl (Does.buildSlice sl86 sz57 ze57 (by decide) (by decide) rfl rfl rfl) ?_
      rintro _ _ ⟨bt, rfl, rfl⟩
      refine ⟨(by first | exact Go.X.ro_nil | (repeat (first | exact Go.X.ro_pre3 | refine Go.X.ro_tail ?_ | refine Go.X.ro_app ?_))), ?_⟩
      refine TG.one 10 (by kernel_rfl) ?_
      refine TP.dz false 2047 (some 29) rfl rfl rfl rfl (Does.appendS (xs := ss.map Sr.ptr) (ys := [.pointer (some ⟨bs, 0, none⟩)]) σ (sobj bs c.seed k 0 0 :: wob b6 c (slA σ) k (slC σ) b4 N none 0 0 :: (b4, row 4 ((List.replicate N false).map Value.bool)) :: (b1, .cells #[.int .i64 (c.n), .int .i64 (c.f), .int .i64 (c.m), .int .i64 (c.quorum), .int .i64 (c.fresh), .int .i64 (c.grace), .int .i64 (c.window), .int .i64 (c.t0), .int .i64 (c.t1), .int .i64 (c.t2), .int .i64 (c.t3), .int .i64 (c.tol), .int .i64 (c.min), .int .i64 (c.max), .int .i64 (c.calmup), .int .i64 (c.calmdown), .int .i64 (c.podsup), .int .i64 (c.pctup), .int .i64 (c.podsdown), .int .i64 (c.pctdown), .int .i64 (c.period), .int .i64 (c.far), .int .i64 (c.strikes), .int .i64 (c.probe), .int .i64 (c.sectors), .int .u64 (c.seed)] 26 (0, 0)) :: (ss.map (sob c.seed) ++ M)) (fun w h => ro_mv (A := [_, _, _, _]) w h.drop) rfl rfl sl86 sz57 by57 ze57 rfl hok (.inl ⟨_, _, rfl, ⟨57, us86⟩, .some (Rd.get (i := 0) rfl rfl)⟩) rfl (one_ptr bs) (by omega) (by omega)) ?_
      rintro _ _ ⟨σ1, rfl, hok1, rfl⟩
      refine ⟨(by first | exact Go.X.ro_nil | (repeat (first | exact Go.X.ro_pre3 | refine Go.X.ro_tail ?_ | refine Go.X.ro_app ?_))), ?_⟩
      refine TG.heap (M' := wob b6 c (slA σ) k (slC σ) b4 N none 0 0 :: (b4, row 4 ((List.replicate N false).map Value.bool)) :: (b1, .cells #[.int .i64 (c.n), .int .i64 (c.f), .int .i64 (c.m), .int .i64 (c.quorum), .int .i64 (c.fresh), .int .i64 (c.grace), .int .i64 (c.window), .int .i64 (c.t0), .int .i64 (c.t1), .int .i64 (c.t2), .int .i64 (c.t3), .int .i64 (c.tol), .int .i64 (c.min), .int .i64 (c.max), .int .i64 (c.calmup), .int .i64 (c.calmdown), .int .i64 (c.podsup), .int .i64 (c.pctup), .int .i64 (c.podsdown), .int .i64 (c.pctdown), .int .i64 (c.period), .int .i64 (c.far), .int .i64 (c.strikes), .int .i64 (c.probe), .int .i64 (c.sectors), .int .u64 (c.seed)] 26 (0, 0)) :: (slH σ1 57 (ss.map Sr.ptr ++ [.pointer (some ⟨bs, 0, none⟩)]) ++ sobj bs c.seed k 0 0 :: (ss.map (sob c.seed) ++ M))) ro_4 ?_
      refine TG.tw false 11 4095 rfl rfl rfl (Val.nilCheck rfl) ?_ (hro := (by first | exact Go.X.ro_nil | (repeat (first | exact Go.X.ro_pre3 | refine Go.X.ro_tail ?_ | refine Go.X.ro_app ?_))))
      refine TG.tk false 12 8191 rfl rfl rfl (Val.fieldAddr rfl fl94_1 sz86 rfl) ?_ (hro := (by first | exact Go.X.ro_nil | (repeat (first | exact Go.X.ro_pre3 | refine Go.X.ro_tail ?_ | refine Go.X.ro_app ?_))))
      refine TG.one 13 (by kernel_rfl) ?_
      first
        | refine TP.dz true 16383 none rfl rfl rfl rfl (Does.store (i := 0) rfl rfl rfl sz86 rfl rfl (by first | exact Nat.le_of_ble_eq_true rfl | decide | omega) rfl rfl) ?_
        | refine TP.dz true 16383 none rfl rfl rfl rfl (Does.store (i := 1) rfl rfl rfl sz86 rfl rfl (by first | exact Nat.le_of_ble_eq_true rfl | decide | omega) rfl rfl) ?_
        | refine TP.dz true 16383 none rfl rfl rfl rfl (Does.store (i := 2) rfl rfl rfl sz86 rfl rfl (by first | exact Nat.le_of_ble_eq_true rfl | decide | omega) rfl rfl) ?_
        | refine TP.dz true 16383 none rfl rfl rfl rfl (Does.store (i := 3) rfl rfl rfl sz86 rfl rfl (by first | exact Nat.le_of_ble_eq_true rfl | decide | omega) rfl rfl) ?_
        | refine TP.dz true 16383 none rfl rfl rfl rfl (Does.store (i := 4) rfl rfl rfl sz86 rfl rfl (by first | exact Nat.le_of_ble_eq_true rfl | decide | omega) rfl rfl) ?_
        | refine TP.dz true 16383 none rfl rfl rfl rfl (Does.store (i := 5) rfl rfl rfl sz86 rfl rfl (by first | exact Nat.le_of_ble_eq_true rfl | decide | omega) rfl rfl) ?_
      rintro _ _ ⟨rfl, rfl⟩
      refine ⟨(by first | exact Go.X.ro_nil | (repeat (first | exact Go.X.ro_pre3 | refine Go.X.ro_tail ?_ | refine Go.X.ro_app ?_))), ?_⟩
      refine TG.done (by kernel_rfl) ?_ _
      refine AtX.blk ?_
      refine AtX.then ?_
      refine TC.region ?_
      first
        | refine TL.val rfl rfl (Nat.le_of_ble_eq_true rfl) (Val.add rfl rfl (w_i64 (by omega) (by omega))) ?_
        | refine TL.val rfl rfl (Nat.le_of_ble_eq_true rfl) (Val.add rfl rfl rfl) ?_
      refine TL.val rfl rfl (Nat.le_of_ble_eq_true rfl) (Val.move rfl) ?_
      refine TL.nil ?_
      refine AtX.round (i := (k, σ, ss)) (k + 1, σ1, ss ++ [⟨bs, k, 0, 0⟩]) ?_ ?_ (Sub.cons rfl (Sub.cons rfl (Sub.cons rfl (Sub.cons rfl (Sub.nil _))))) (fun w h => by dsimp only; rw [List.map_append, List.map_append]; exact ro_in (A := [_, _, _]) w h)
      · exact ⟨by omega, by simp [hss], by dsimp only; rw [List.map_append]; exact hok1, get_push hw ⟨by rw [hss], rfl, rfl⟩⟩
      · show N - (k + 1) < N - k; omega
    · skip
      refine TC.exit ?_
      refine AtX.seqX ?_
      refine AtX.seqX ?_
      refine AtX.hit ?_
      refine AtX.then ?_
      refine TC.env (E' := [(3, _)]) (Sub.cons rfl (Sub.nil _)) ?_
      refine TC.seq ?_
      have hkN : k = N := by omega
      subst hkN
      obtain ⟨bl, cl, spl, rfl, hcl⟩ := hok.some (by omega)
      refine TC.region ?_
      refine TL.val rfl rfl (Nat.le_of_ble_eq_true rfl) (Val.move rfl) ?_
      refine TL.val rfl rfl (Nat.le_of_ble_eq_true rfl) (Val.assign rfl) ?_
      refine TL.nil ?_
      refine AtX.then ?_
      refine TC.env (E' := [(2, _)]) (Sub.cons rfl (Sub.nil _)) ?_
      refine TC.ret1 (fn := Try.f12) (fun _ _ h => h) rfl (RV.tmp rfl) (M' := wob b6 c (some ⟨bl, 0, none⟩) k cl b4 k none 0 0 :: (b4, row 4 ((List.replicate k false).map Value.bool)) :: (bl, row 57 (ss.map Sr.ptr ++ spl)) :: (ss.map (sob c.seed) ++ M)) (fun w h => ro_del 2 rfl w h) ?_
      exact ⟨b6, bl, cl, spl, b4, ss, rfl, hss, hw, rfl⟩

end Go.Proofs.Ytphoapajlcaoeaa
