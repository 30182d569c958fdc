/- Texts put together: A13, A57, A14, A15, A58, A16, A17, A59, A60. -/
import Derived.Test.YtphoapajlcaoeaaW2
import Derived.Test.YtphoapajlcaoeaaG1
import Derived.Test.YtphoapajlcaoeaaG2
/- walks -/
set_option linter.unusedVariables false
set_option linter.unusedSimpArgs false
set_option maxRecDepth 100000
set_option maxHeartbeats 4000000
namespace Go.Proofs.Ytphoapajlcaoeaa
open Go Go.X
abbrev wob (b : Nat) (c : Cf) (A : Option Addr) (nl cl bb N : Nat) (σ : Sl) (nk : Nat) (n : Int) : Nat × Obj := (b, .cells #[.int .i64 (c.n), .int .i64 (c.f), .int .i64 (c.m), .int .i64 (c.quorum), .int .i64 (c.fresh), .int .i64 (c.grace), .int .i64 (c.window), .int .i64 (c.t0), .int .i64 (c.t1), .int .i64 (c.t2), .int .i64 (c.t3), .int .i64 (c.tol), .int .i64 (c.min), .int .i64 (c.max), .int .i64 (c.calmup), .int .i64 (c.calmdown), .int .i64 (c.podsup), .int .i64 (c.pctup), .int .i64 (c.podsdown), .int .i64 (c.pctdown), .int .i64 (c.period), .int .i64 (c.far), .int .i64 (c.strikes), .int .i64 (c.probe), .int .i64 (c.sectors), .int .u64 (c.seed), .slice A nl cl, .slice (some ⟨bb, 0, none⟩) N N, .slice (slA σ) nk (slC σ), .int .i64 n] 94 (0, 0))
abbrev sob (s : Int) (r : Sr) : Nat × Obj := sobj r.b s r.w r.g r.q
/-- quorumite/adverse.New -/
theorem wNew_nil (c : Cf) (M : Hp) (hn : 0 ≤ c.n ∧ c.n ≤ 1000) (hf : 0 ≤ c.f ∧ c.f ≤ 16) (ht : tg c) (h1 : c.n < 1) : FnC Try.prog 12 #[.agg #[.int .i64 (c.n), .int .i64 (c.f), .int .i64 (c.m), .int .i64 (c.quorum), .int .i64 (c.fresh), .int .i64 (c.grace), .int .i64 (c.window), .int .i64 (c.t0), .int .i64 (c.t1), .int .i64 (c.t2), .int .i64 (c.t3), .int .i64 (c.tol), .int .i64 (c.min), .int .i64 (c.max), .int .i64 (c.calmup), .int .i64 (c.calmdown), .int .i64 (c.podsup), .int .i64 (c.pctup), .int .i64 (c.podsdown), .int .i64 (c.pctdown), .int .i64 (c.period), .int .i64 (c.far), .int .i64 (c.strikes), .int .i64 (c.probe), .int .i64 (c.sectors), .int .u64 (c.seed)]] M (fun v M' => v = .pointer none ∧ M = M') := by
  refine FnC.intro Try.func12 rfl 34 rfl (by simp) (fun z => ?_)
  refine TC.env (E' := [(0, _)]) (Sub.cons rfl (Sub.nil _)) ?_
  refine TC.seq ?_
  refine TC.region ?_
  refine TL.does (some 1) rfl rfl rfl (Does.box rfl rfl) ?_
  rintro _ _ ⟨b1, rfl, rfl⟩
  refine TL.val rfl rfl (Nat.le_of_ble_eq_true rfl) (Val.assign rfl) ?_
  refine TL.nil ?_
  refine AtX.then ?_
  refine TC.env (E' := [(1, _), (2, _)]) (Sub.cons rfl (Sub.cons rfl (Sub.nil _))) ?_
  refine TC.seq ?_
  refine TC.seq ?_
  refine TC.region ?_
  refine TL.val rfl rfl (Nat.le_of_ble_eq_true rfl) (Val.loadAgg 0 rfl ag26 sz26 rfl rfl rfl) ?_
  refine TL.does (some 6) rfl rfl rfl (Does.callF go44 rfl (cMay_no c _ hn hf ht h1)) ?_
  rintro _ _ ⟨rfl, rfl⟩
  refine TL.val rfl rfl (Nat.le_of_ble_eq_true rfl) (Val.not rfl) ?_
  refine TL.nil ?_
  refine AtX.then ?_
  refine TC.env (E' := [(1, _), (2, _), (7, _)]) (Sub.cons rfl (Sub.cons rfl (Sub.cons rfl (Sub.nil _)))) ?_
  first | refine TC.condP rfl (fun c1 => ?_) (fun c1 => ?_) | refine TC.condN rfl (fun c1 => ?_) (fun c1 => ?_) | refine TC.condB rfl (fun c1 => ?_) (fun c1 => ?_) | refine TC.cond rfl (fun c1 => ?_) (fun c1 => ?_)
  · skip
    refine TC.env (E' := [(1, _), (2, _)]) (Sub.cons rfl (Sub.cons rfl (Sub.nil _))) ?_
    refine TC.seq ?_
    refine TC.region ?_
    refine TL.val rfl rfl (Nat.le_of_ble_eq_true rfl) (Val.assign rfl) ?_
    refine TL.nil ?_
    refine AtX.then ?_
    refine TC.env (E' := [(1, _), (2, _)]) (Sub.cons rfl (Sub.cons rfl (Sub.nil _))) ?_
    refine TC.ret1 (fn := Try.f12) (fun _ _ h => h) rfl (RV.tmp rfl) (M' := M) (by repeat (first | exact ro_refl | exact ro_pre | refine ro_tail ?_ | refine ro_app ?_)) ?_
    exact ⟨rfl, rfl⟩
  · skip
    cases c1

/-- quorumite/adverse.New -/
theorem wNew_fn (c : Cf) (N : Nat) (M : Hp) (hc : OkC c) (hN : c.n = N) : FnC Try.prog 12 #[.agg #[.int .i64 (c.n), .int .i64 (c.f), .int .i64 (c.m), .int .i64 (c.quorum), .int .i64 (c.fresh), .int .i64 (c.grace), .int .i64 (c.window), .int .i64 (c.t0), .int .i64 (c.t1), .int .i64 (c.t2), .int .i64 (c.t3), .int .i64 (c.tol), .int .i64 (c.min), .int .i64 (c.max), .int .i64 (c.calmup), .int .i64 (c.calmdown), .int .i64 (c.podsup), .int .i64 (c.pctup), .int .i64 (c.podsdown), .int .i64 (c.pctdown), .int .i64 (c.period), .int .i64 (c.far), .int .i64 (c.strikes), .int .i64 (c.probe), .int .i64 (c.sectors), .int .u64 (c.seed)]] M (fun v M' => ∃ (b bl cl : Nat) (spl : List Value) (bb : Nat) (ss : List Sr), v = .pointer (some ⟨b, 0, none⟩) ∧ ss.length = N ∧ (∀ (k : Nat) (r : Sr), ss[k]? = some r → r.w = k ∧ r.g = 0 ∧ r.q = 0) ∧ M' = wob b c (some ⟨bl, 0, none⟩) N cl bb N none 0 0 :: (bb, row 4 ((List.replicate N false).map Value.bool)) :: (bl, row 57 (ss.map Sr.ptr ++ spl)) :: (ss.map (sob c.seed) ++ M)) := by
  have hn16 := hc.n
  refine FnC.intro Try.func12 rfl 34 rfl (by simp) (fun z => ?_)
  refine TC.env (E' := [(0, _)]) (Sub.cons rfl (Sub.nil _)) ?_
  refine TC.seq ?_
  refine TC.region ?_
  refine TL.does (some 1) rfl rfl rfl (Does.box rfl rfl) ?_
  rintro _ _ ⟨b1, rfl, rfl⟩
  refine TL.val rfl rfl (Nat.le_of_ble_eq_true rfl) (Val.assign rfl) ?_
  refine TL.nil ?_
  refine AtX.then ?_
  refine TC.env (E' := [(1, _), (2, _)]) (Sub.cons rfl (Sub.cons rfl (Sub.nil _))) ?_
  refine TC.seq ?_
  refine TC.seq ?_
  refine TC.region ?_
  refine TL.val rfl rfl (Nat.le_of_ble_eq_true rfl) (Val.loadAgg 0 rfl ag26 sz26 rfl rfl rfl) ?_
  refine TL.does (some 6) rfl rfl rfl (Does.callF go44 rfl (cMay_ok c _ hc)) ?_
  rintro _ _ ⟨rfl, rfl⟩
  refine TL.val rfl rfl (Nat.le_of_ble_eq_true rfl) (Val.not rfl) ?_
  refine TL.nil ?_
  refine AtX.then ?_
  refine TC.env (E' := [(1, _), (2, _), (7, _)]) (Sub.cons rfl (Sub.cons rfl (Sub.cons rfl (Sub.nil _)))) ?_
  first | refine TC.condP rfl (fun c1 => ?_) (fun c1 => ?_) | refine TC.condN rfl (fun c1 => ?_) (fun c1 => ?_) | refine TC.condB rfl (fun c1 => ?_) (fun c1 => ?_) | refine TC.cond rfl (fun c1 => ?_) (fun c1 => ?_)
  · skip
    cases c1
  · skip
    refine TC.env (E' := [(1, _), (2, _)]) (Sub.cons rfl (Sub.cons rfl (Sub.nil _))) ?_
    refine TC.skip ?_
    refine AtX.then ?_
    refine TC.env (E' := [(1, _), (2, _)]) (Sub.cons rfl (Sub.cons rfl (Sub.nil _))) ?_
    refine TC.seq ?_
    refine TC.drawL ((b1, .cells #[.int .i64 (c.n), .int .i64 (c.f), .int .i64 (c.m), .int .i64 (c.quorum), .int .i64 (c.fresh), .int .i64 (c.grace), .int .i64 (c.window), .int .i64 (c.t0), .int .i64 (c.t1), .int .i64 (c.t2), .int .i64 (c.t3), .int .i64 (c.tol), .int .i64 (c.min), .int .i64 (c.max), .int .i64 (c.calmup), .int .i64 (c.calmdown), .int .i64 (c.podsup), .int .i64 (c.pctup), .int .i64 (c.podsdown), .int .i64 (c.pctdown), .int .i64 (c.period), .int .i64 (c.far), .int .i64 (c.strikes), .int .i64 (c.probe), .int .i64 (c.sectors), .int .u64 (c.seed)] 26 (0, 0)) :: M) mixed 7 ?_
    refine TA.tk 0 1 rfl rfl rfl (Val.loadAgg (vs := [.int .i64 (c.n), .int .i64 (c.f), .int .i64 (c.m), .int .i64 (c.quorum), .int .i64 (c.fresh), .int .i64 (c.grace), .int .i64 (c.window), .int .i64 (c.t0), .int .i64 (c.t1), .int .i64 (c.t2), .int .i64 (c.t3), .int .i64 (c.tol), .int .i64 (c.min), .int .i64 (c.max), .int .i64 (c.calmup), .int .i64 (c.calmdown), .int .i64 (c.podsup), .int .i64 (c.pctup), .int .i64 (c.podsdown), .int .i64 (c.pctdown), .int .i64 (c.period), .int .i64 (c.far), .int .i64 (c.strikes), .int .i64 (c.probe), .int .i64 (c.sectors), .int .u64 (c.seed)]) 0 rfl ag26 sz26 rfl rfl rfl) ?_
    refine TA.tk 1 3 rfl rfl rfl (Val.fieldAddr rfl fl26_0 sz3 rfl) ?_
    refine TA.tk 2 7 rfl rfl rfl (Val.load 0 rfl ag3 rfl rfl) ?_
    refine TA.one 3 (by kernel_rfl) ?_
    refine TO.dz 15 (some 11) rfl rfl rfl rfl (Does.makeSlice (n := N) (c := N) rfl rfl sl85 sz4 by4 ze4 rfl hN hN (by omega) (by omega) (by omega)) ?_
    rintro _ _ ⟨b4, rfl, rfl⟩
    rw [show zrep (Value.bool false).cells.toList N = (List.replicate N false).map Value.bool from zrep_bool N]
    refine roK ?_
    refine TA.tk 4 31 rfl rfl rfl (Val.buildS (cs := [.int .i64 (c.n), .int .i64 (c.f), .int .i64 (c.m), .int .i64 (c.quorum), .int .i64 (c.fresh), .int .i64 (c.grace), .int .i64 (c.window), .int .i64 (c.t0), .int .i64 (c.t1), .int .i64 (c.t2), .int .i64 (c.t3), .int .i64 (c.tol), .int .i64 (c.min), .int .i64 (c.max), .int .i64 (c.calmup), .int .i64 (c.calmdown), .int .i64 (c.podsup), .int .i64 (c.pctup), .int .i64 (c.podsdown), .int .i64 (c.pctdown), .int .i64 (c.period), .int .i64 (c.far), .int .i64 (c.strikes), .int .i64 (c.probe), .int .i64 (c.sectors), .int .u64 (c.seed), .slice none 0 0, .slice (some ⟨b4, 0, none⟩) N N, .slice none 0 0, .int .i64 0]) pl94 ze94 rfl (fill_step (pre := []) (mid := [.int .i64 (0), .int .i64 (0), .int .i64 (0), .int .i64 (0), .int .i64 (0), .int .i64 (0), .int .i64 (0), .int .i64 (0), .int .i64 (0), .int .i64 (0), .int .i64 (0), .int .i64 (0), .int .i64 (0), .int .i64 (0), .int .i64 (0), .int .i64 (0), .int .i64 (0), .int .i64 (0), .int .i64 (0), .int .i64 (0), .int .i64 (0), .int .i64 (0), .int .i64 (0), .int .i64 (0), .int .i64 (0), .int .u64 (0)]) (post := [.slice none 0 0, .slice none 0 0, .slice none 0 0, .int .i64 0]) rfl rfl rfl rfl (fill_step (pre := [.int .i64 (c.n), .int .i64 (c.f), .int .i64 (c.m), .int .i64 (c.quorum), .int .i64 (c.fresh), .int .i64 (c.grace), .int .i64 (c.window), .int .i64 (c.t0), .int .i64 (c.t1), .int .i64 (c.t2), .int .i64 (c.t3), .int .i64 (c.tol), .int .i64 (c.min), .int .i64 (c.max), .int .i64 (c.calmup), .int .i64 (c.calmdown), .int .i64 (c.podsup), .int .i64 (c.pctup), .int .i64 (c.podsdown), .int .i64 (c.pctdown), .int .i64 (c.period), .int .i64 (c.far), .int .i64 (c.strikes), .int .i64 (c.probe), .int .i64 (c.sectors), .int .u64 (c.seed), .slice none 0 0]) (mid := [.slice none 0 0]) (post := [.slice none 0 0, .int .i64 0]) rfl rfl rfl rfl rfl))) ?_
    refine TA.one 5 (by kernel_rfl) ?_
    refine TO.dz 63 (some 13) rfl rfl rfl rfl (Does.box rfl rfl) ?_
    rintro _ _ ⟨b6, rfl, rfl⟩
    refine roK ?_
    refine TA.tk 6 127 rfl rfl rfl (Val.assign rfl) ?_
    refine TA.done (by kernel_rfl) ?_
    refine AtX.then ?_
    refine TC.env (E' := [(1, _), (2, _), (3, _)]) (Sub.cons rfl (Sub.cons rfl (Sub.cons rfl (Sub.nil _)))) ?_
    refine TC.seq ?_
    refine TC.seq ?_
    refine TC.heap (M' := wob b6 c none 0 0 b4 N none 0 0 :: (b4, row 4 ((List.replicate N false).map Value.bool)) :: (b1, .cells #[.int .i64 (c.n), .int .i64 (c.f), .int .i64 (c.m), .int .i64 (c.quorum), .int .i64 (c.fresh), .int .i64 (c.grace), .int .i64 (c.window), .int .i64 (c.t0), .int .i64 (c.t1), .int .i64 (c.t2), .int .i64 (c.t3), .int .i64 (c.tol), .int .i64 (c.min), .int .i64 (c.max), .int .i64 (c.calmup), .int .i64 (c.calmdown), .int .i64 (c.podsup), .int .i64 (c.pctup), .int .i64 (c.podsdown), .int .i64 (c.pctdown), .int .i64 (c.period), .int .i64 (c.far), .int .i64 (c.strikes), .int .i64 (c.probe), .int .i64 (c.sectors), .int .u64 (c.seed)] 26 (0, 0)) :: M) (fun w h => h) ?_
    refine TC.region ?_
    refine TL.val rfl rfl (Nat.le_of_ble_eq_true rfl) (Val.fieldAddr rfl fl26_0 sz3 rfl) ?_
    refine TL.val rfl rfl (Nat.le_of_ble_eq_true rfl) (Val.load 2 rfl ag3 rfl rfl) ?_
    refine TL.val rfl rfl (Nat.le_of_ble_eq_true rfl) (Val.move rfl) ?_
    refine TL.nil ?_
    refine AtX.then ?_
    refine TC.env (E' := [(1, _), (2, _), (3, _), (15, _), (16, _)]) (Sub.cons rfl (Sub.cons rfl (Sub.cons rfl (Sub.cons rfl (Sub.cons rfl (Sub.nil _)))))) ?_
    refine TC.block ?_
    refine TC.loop (ι := (Nat × Sl × List Sr)) (fun i => [(1, .pointer (some ⟨b1, 0, none⟩)), (3, .pointer (some ⟨b6, 0, none⟩)), (15, .int .i64 c.n), (16, .int .i64 (i.1 : Nat))]) (fun i => wob b6 c (slA i.2.1) i.1 (slC i.2.1) b4 N none 0 0 :: (b4, row 4 ((List.replicate N false).map Value.bool)) :: (b1, .cells #[.int .i64 (c.n), .int .i64 (c.f), .int .i64 (c.m), .int .i64 (c.quorum), .int .i64 (c.fresh), .int .i64 (c.grace), .int .i64 (c.window), .int .i64 (c.t0), .int .i64 (c.t1), .int .i64 (c.t2), .int .i64 (c.t3), .int .i64 (c.tol), .int .i64 (c.min), .int .i64 (c.max), .int .i64 (c.calmup), .int .i64 (c.calmdown), .int .i64 (c.podsup), .int .i64 (c.pctup), .int .i64 (c.podsdown), .int .i64 (c.pctdown), .int .i64 (c.period), .int .i64 (c.far), .int .i64 (c.strikes), .int .i64 (c.probe), .int .i64 (c.sectors), .int .u64 (c.seed)] 26 (0, 0)) :: (slH i.2.1 57 (i.2.2.map Sr.ptr) ++ (i.2.2.map (sob c.seed) ++ M))) (fun i => i.1 ≤ N ∧ i.2.2.length = i.1 ∧ slOk i.2.1 1 i.1 (i.2.2.map Sr.ptr) ∧ ∀ (j : Nat) (r : Sr), i.2.2[j]? = some r → r.w = j ∧ r.g = 0 ∧ r.q = 0) (fun i => N - i.1) (0, none, []) ?_ (Sub.cons rfl (Sub.cons rfl (Sub.cons rfl (Sub.cons rfl (Sub.nil _))))) (fun _ h => h) ?_
    · exact ⟨by omega, rfl, slOk_nil 1, fun j r h => by simp at h⟩
    rintro ⟨k, σ, ss⟩ ⟨hk, hss, hok, hw⟩
    dsimp only at hk hss hok hw ⊢
    refine TC.seq ?_
    refine TC.region ?_
    refine TL.val rfl rfl (Nat.le_of_ble_eq_true rfl) (Val.lss rfl rfl) ?_
    refine TL.nil ?_
    refine AtX.then ?_
    refine TC.seq ?_
    first | refine TC.condP rfl (fun c2 => ?_) (fun c2 => ?_) | refine TC.condN rfl (fun c2 => ?_) (fun c2 => ?_) | refine TC.condB rfl (fun c2 => ?_) (fun c2 => ?_) | refine TC.cond rfl (fun c2 => ?_) (fun c2 => ?_)
    · skip
      refine TC.skip ?_
      refine AtX.then ?_
      refine TC.seq ?_
      refine TC.block ?_
      refine TC.seq ?_
      refine TC.region ?_
      refine TL.val rfl rfl (Nat.le_of_ble_eq_true rfl) (Val.move rfl) ?_
      refine TL.val rfl rfl (Nat.le_of_ble_eq_true rfl) (Val.assign rfl) ?_
      refine TL.nil ?_
      refine AtX.then ?_
      refine TC.drawGM [13] [wob b6 c (slA σ) k (slC σ) b4 N none 0 0, (b4, row 4 ((List.replicate N false).map Value.bool)), (b1, .cells #[.int .i64 (c.n), .int .i64 (c.f), .int .i64 (c.m), .int .i64 (c.quorum), .int .i64 (c.fresh), .int .i64 (c.grace), .int .i64 (c.window), .int .i64 (c.t0), .int .i64 (c.t1), .int .i64 (c.t2), .int .i64 (c.t3), .int .i64 (c.tol), .int .i64 (c.min), .int .i64 (c.max), .int .i64 (c.calmup), .int .i64 (c.calmdown), .int .i64 (c.podsup), .int .i64 (c.pctup), .int .i64 (c.podsdown), .int .i64 (c.pctdown), .int .i64 (c.period), .int .i64 (c.far), .int .i64 (c.strikes), .int .i64 (c.probe), .int .i64 (c.sectors), .int .u64 (c.seed)] 26 (0, 0))] [] mixed 14 ?_
      refine TG.tk false 0 1 rfl rfl rfl (Val.move rfl) ?_ (hro := (by first | exact Go.X.ro_nil | (repeat (first | exact Go.X.ro_pre3 | refine Go.X.ro_tail ?_ | refine Go.X.ro_app ?_))))
      refine TG.tk false 1 3 rfl rfl rfl (Val.move rfl) ?_ (hro := (by first | exact Go.X.ro_nil | (repeat (first | exact Go.X.ro_pre3 | refine Go.X.ro_tail ?_ | refine Go.X.ro_app ?_))))
      refine TG.tk false 2 7 rfl rfl rfl (Val.nilCheck rfl) ?_ (hro := (by first | exact Go.X.ro_nil | (repeat (first | exact Go.X.ro_pre3 | refine Go.X.ro_tail ?_ | refine Go.X.ro_app ?_))))
      refine TG.tk false 3 15 rfl rfl rfl (Val.fieldAddr rfl fl94_1 sz86 rfl) ?_ (hro := (by first | exact Go.X.ro_nil | (repeat (first | exact Go.X.ro_pre3 | refine Go.X.ro_tail ?_ | refine Go.X.ro_app ?_))))
      refine TG.tk false 4 31 rfl rfl rfl (Val.load 0 rfl ag86 rfl rfl) ?_ (hro := (by first | exact Go.X.ro_nil | (repeat (first | exact Go.X.ro_pre3 | refine Go.X.ro_tail ?_ | refine Go.X.ro_app ?_))))
      refine TG.tk false 5 63 rfl rfl rfl (Val.fieldAddr rfl fl26_22 sz24 rfl) ?_ (hro := (by first | exact Go.X.ro_nil | (repeat (first | exact Go.X.ro_pre3 | refine Go.X.ro_tail ?_ | refine Go.X.ro_app ?_))))
      refine TG.tk false 6 127 rfl rfl rfl (Val.load 2 rfl ag24 rfl rfl) ?_ (hro := (by first | exact Go.X.ro_nil | (repeat (first | exact Go.X.ro_pre3 | refine Go.X.ro_tail ?_ | refine Go.X.ro_app ?_))))
      refine TG.tk false 7 255 rfl rfl rfl (Val.move rfl) ?_ (hro := (by first | exact Go.X.ro_nil | (repeat (first | exact Go.X.ro_pre3 | refine Go.X.ro_tail ?_ | refine Go.X.ro_app ?_))))
      refine TG.one 8 (by kernel_rfl) ?_
      refine TP.dz false 511 (some 27) rfl rfl rfl rfl (Does.callF go30 rfl (sNew_fn c.seed k _ (by omega))) ?_
      rintro _ _ ⟨bs, rfl, rfl⟩
      refine ⟨(by first | exact Go.X.ro_nil | (repeat (first | exact Go.X.ro_pre3 | refine Go.X.ro_tail ?_ | refine Go.X.ro_app ?_))), ?_⟩
      refine TG.one 9 (by kernel_rfl) ?_
      refine TP.dz false 1023 (some 28) rfl rfl rfl rfl (Does.buildSlice sl86 sz57 ze57 (by decide) (by decide) rfl rfl rfl) ?_
      rintro _ _ ⟨bt, rfl, rfl⟩
      refine ⟨(by first | exact Go.X.ro_nil | (repeat (first | exact Go.X.ro_pre3 | refine Go.X.ro_tail ?_ | refine Go.X.ro_app ?_))), ?_⟩
      refine TG.one 10 (by kernel_rfl) ?_
      refine TP.dz false 2047 (some 29) rfl rfl rfl rfl (Does.appendS (xs := ss.map Sr.ptr) (ys := [.pointer (some ⟨bs, 0, none⟩)]) σ (sobj bs c.seed k 0 0 :: wob b6 c (slA σ) k (slC σ) b4 N none 0 0 :: (b4, row 4 ((List.replicate N false).map Value.bool)) :: (b1, .cells #[.int .i64 (c.n), .int .i64 (c.f), .int .i64 (c.m), .int .i64 (c.quorum), .int .i64 (c.fresh), .int .i64 (c.grace), .int .i64 (c.window), .int .i64 (c.t0), .int .i64 (c.t1), .int .i64 (c.t2), .int .i64 (c.t3), .int .i64 (c.tol), .int .i64 (c.min), .int .i64 (c.max), .int .i64 (c.calmup), .int .i64 (c.calmdown), .int .i64 (c.podsup), .int .i64 (c.pctup), .int .i64 (c.podsdown), .int .i64 (c.pctdown), .int .i64 (c.period), .int .i64 (c.far), .int .i64 (c.strikes), .int .i64 (c.probe), .int .i64 (c.sectors), .int .u64 (c.seed)] 26 (0, 0)) :: (ss.map (sob c.seed) ++ M)) (fun w h => ro_mv (A := [_, _, _, _]) w h.drop) rfl rfl sl86 sz57 by57 ze57 rfl hok (.inl ⟨_, _, rfl, ⟨57, us86⟩, .some (Rd.get (i := 0) rfl rfl)⟩) rfl (one_ptr bs) (by omega) (by omega)) ?_
      rintro _ _ ⟨σ1, rfl, hok1, rfl⟩
      refine ⟨(by first | exact Go.X.ro_nil | (repeat (first | exact Go.X.ro_pre3 | refine Go.X.ro_tail ?_ | refine Go.X.ro_app ?_))), ?_⟩
      refine TG.heap (M' := wob b6 c (slA σ) k (slC σ) b4 N none 0 0 :: (b4, row 4 ((List.replicate N false).map Value.bool)) :: (b1, .cells #[.int .i64 (c.n), .int .i64 (c.f), .int .i64 (c.m), .int .i64 (c.quorum), .int .i64 (c.fresh), .int .i64 (c.grace), .int .i64 (c.window), .int .i64 (c.t0), .int .i64 (c.t1), .int .i64 (c.t2), .int .i64 (c.t3), .int .i64 (c.tol), .int .i64 (c.min), .int .i64 (c.max), .int .i64 (c.calmup), .int .i64 (c.calmdown), .int .i64 (c.podsup), .int .i64 (c.pctup), .int .i64 (c.podsdown), .int .i64 (c.pctdown), .int .i64 (c.period), .int .i64 (c.far), .int .i64 (c.strikes), .int .i64 (c.probe), .int .i64 (c.sectors), .int .u64 (c.seed)] 26 (0, 0)) :: (slH σ1 57 (ss.map Sr.ptr ++ [.pointer (some ⟨bs, 0, none⟩)]) ++ sobj bs c.seed k 0 0 :: (ss.map (sob c.seed) ++ M))) ro_4 ?_
      refine TG.tw false 11 4095 rfl rfl rfl (Val.nilCheck rfl) ?_ (hro := (by first | exact Go.X.ro_nil | (repeat (first | exact Go.X.ro_pre3 | refine Go.X.ro_tail ?_ | refine Go.X.ro_app ?_))))
      refine TG.tk false 12 8191 rfl rfl rfl (Val.fieldAddr rfl fl94_1 sz86 rfl) ?_ (hro := (by first | exact Go.X.ro_nil | (repeat (first | exact Go.X.ro_pre3 | refine Go.X.ro_tail ?_ | refine Go.X.ro_app ?_))))
      refine TG.one 13 (by kernel_rfl) ?_
      refine TP.dz true 16383 none rfl rfl rfl rfl (Does.store (i := 0) rfl rfl rfl sz86 rfl rfl (by first | exact Nat.le_of_ble_eq_true rfl | decide | omega) rfl rfl) ?_
      rintro _ _ ⟨rfl, rfl⟩
      refine ⟨(by first | exact Go.X.ro_nil | (repeat (first | exact Go.X.ro_pre3 | refine Go.X.ro_tail ?_ | refine Go.X.ro_app ?_))), ?_⟩
      refine TG.done (by kernel_rfl) ?_ _
      refine AtX.blk ?_
      refine AtX.then ?_
      refine TC.region ?_
      refine TL.val rfl rfl (Nat.le_of_ble_eq_true rfl) (Val.add rfl rfl (w_i64 (by omega) (by omega))) ?_
      refine TL.val rfl rfl (Nat.le_of_ble_eq_true rfl) (Val.move rfl) ?_
      refine TL.nil ?_
      refine AtX.round (i := (k, σ, ss)) (k + 1, σ1, ss ++ [⟨bs, k, 0, 0⟩]) ?_ ?_ (Sub.cons rfl (Sub.cons rfl (Sub.cons rfl (Sub.cons rfl (Sub.nil _))))) (fun w h => by dsimp only; rw [List.map_append, List.map_append]; exact ro_in (A := [_, _, _]) w h)
      · exact ⟨by omega, by simp [hss], by dsimp only; rw [List.map_append]; exact hok1, get_push hw ⟨by rw [hss], rfl, rfl⟩⟩
      · show N - (k + 1) < N - k; omega
    · skip
      refine TC.exit ?_
      refine AtX.seqX ?_
      refine AtX.seqX ?_
      refine AtX.hit ?_
      refine AtX.then ?_
      refine TC.env (E' := [(3, _)]) (Sub.cons rfl (Sub.nil _)) ?_
      refine TC.seq ?_
      have hkN : k = N := by omega
      subst hkN
      obtain ⟨bl, cl, spl, rfl, hcl⟩ := hok.some (by omega)
      refine TC.region ?_
      refine TL.val rfl rfl (Nat.le_of_ble_eq_true rfl) (Val.move rfl) ?_
      refine TL.val rfl rfl (Nat.le_of_ble_eq_true rfl) (Val.assign rfl) ?_
      refine TL.nil ?_
      refine AtX.then ?_
      refine TC.env (E' := [(2, _)]) (Sub.cons rfl (Sub.nil _)) ?_
      refine TC.ret1 (fn := Try.f12) (fun _ _ h => h) rfl (RV.tmp rfl) (M' := wob b6 c (some ⟨bl, 0, none⟩) k cl b4 k none 0 0 :: (b4, row 4 ((List.replicate k false).map Value.bool)) :: (bl, row 57 (ss.map Sr.ptr ++ spl)) :: (ss.map (sob c.seed) ++ M)) (fun w h => ro_del 2 rfl w h) ?_
      exact ⟨b6, bl, cl, spl, b4, ss, rfl, hss, hw, rfl⟩

end Go.Proofs.Ytphoapajlcaoeaa
/- walks -/
set_option linter.unusedVariables false
set_option linter.unusedSimpArgs false
set_option maxRecDepth 100000
set_option maxHeartbeats 4000000
namespace Go.Proofs.Ytphoapajlcaoeaa
open Go Go.X
abbrev rwo (b : Nat) (c : Cf) (A : Option Addr) (nl cl bb N : Nat) (σ : Sl) (nk : Nat) : Nat × Obj := (b, .cells #[.int .i64 (c.n), .int .i64 (c.f), .int .i64 (c.m), .int .i64 (c.quorum), .int .i64 (c.fresh), .int .i64 (c.grace), .int .i64 (c.window), .int .i64 (c.t0), .int .i64 (c.t1), .int .i64 (c.t2), .int .i64 (c.t3), .int .i64 (c.tol), .int .i64 (c.min), .int .i64 (c.max), .int .i64 (c.calmup), .int .i64 (c.calmdown), .int .i64 (c.podsup), .int .i64 (c.pctup), .int .i64 (c.podsdown), .int .i64 (c.pctdown), .int .i64 (c.period), .int .i64 (c.far), .int .i64 (c.strikes), .int .i64 (c.probe), .int .i64 (c.sectors), .int .u64 (c.seed), .slice A nl cl, .slice (some ⟨bb, 0, none⟩) N N, .slice (slA σ) nk (slC σ)] 105 (0, 0))
abbrev rsob (s : Int) (r : Sr) : Nat × Obj := rsO r.b s r.w r.g r.q
/-- quorumite/quorumiteref22.NewWorld -/
theorem refNW_fn (c : Cf) (N : Nat) (M : Hp) (hc : OkC c) (hN : c.n = N) : FnC Try.prog 18 #[.agg #[.int .i64 (c.n), .int .i64 (c.f), .int .i64 (c.m), .int .i64 (c.quorum), .int .i64 (c.fresh), .int .i64 (c.grace), .int .i64 (c.window), .int .i64 (c.t0), .int .i64 (c.t1), .int .i64 (c.t2), .int .i64 (c.t3), .int .i64 (c.tol), .int .i64 (c.min), .int .i64 (c.max), .int .i64 (c.calmup), .int .i64 (c.calmdown), .int .i64 (c.podsup), .int .i64 (c.pctup), .int .i64 (c.podsdown), .int .i64 (c.pctdown), .int .i64 (c.period), .int .i64 (c.far), .int .i64 (c.strikes), .int .i64 (c.probe), .int .i64 (c.sectors), .int .u64 (c.seed)]] M (fun v M' => ∃ (b bl cl : Nat) (spl : List Value) (bb : Nat) (ss : List Sr), v = .pointer (some ⟨b, 0, none⟩) ∧ ss.length = N ∧ (∀ (k : Nat) (r : Sr), ss[k]? = some r → r.w = k ∧ r.g = 0 ∧ r.q = 0) ∧ M' = rwo b c (some ⟨bl, 0, none⟩) N cl bb N none 0 :: (bb, row 4 ((List.replicate N false).map Value.bool)) :: (bl, row 106 (ss.map Sr.ptr ++ spl)) :: (ss.map (rsob c.seed) ++ M)) := by
  have hn16 := hc.n
  refine FnC.intro Try.func18 rfl 34 rfl (by simp) (fun z => ?_)
  refine TC.env (E' := [(0, _)]) (Sub.cons rfl (Sub.nil _)) ?_
  refine TC.sr ?_
  refine TL.d (Does.box rfl rfl) ?_
  rintro _ _ ⟨b1, rfl, rfl⟩
  refine TL.v (Val.assign rfl) ?_
  refine TL.nt ?_
  refine TC.seq ?_
  refine TC.sr ?_
  refine TL.v (Val.loadAgg 0 rfl ag26 sz26 rfl rfl rfl) ?_
  refine TL.d (Does.callF go53 rfl (refMC_ok c _ hc)) ?_
  rintro _ _ ⟨rfl, rfl⟩
  refine TL.v (Val.not rfl) ?_
  refine TL.nt ?_
  refine TC.condB rfl (fun c1 => ?_) (fun c1 => ?_)
  · skip
    cases c1
  · skip
    refine TC.skip ?_
    refine AtX.then ?_
    refine TC.seq ?_
    refine TC.drawL ((b1, .cells #[.int .i64 (c.n), .int .i64 (c.f), .int .i64 (c.m), .int .i64 (c.quorum), .int .i64 (c.fresh), .int .i64 (c.grace), .int .i64 (c.window), .int .i64 (c.t0), .int .i64 (c.t1), .int .i64 (c.t2), .int .i64 (c.t3), .int .i64 (c.tol), .int .i64 (c.min), .int .i64 (c.max), .int .i64 (c.calmup), .int .i64 (c.calmdown), .int .i64 (c.podsup), .int .i64 (c.pctup), .int .i64 (c.podsdown), .int .i64 (c.pctdown), .int .i64 (c.period), .int .i64 (c.far), .int .i64 (c.strikes), .int .i64 (c.probe), .int .i64 (c.sectors), .int .u64 (c.seed)] 26 (0, 0)) :: M) mixed 7 ?_
    refine TA.tk 0 1 rfl rfl rfl (Val.loadAgg (vs := [.int .i64 (c.n), .int .i64 (c.f), .int .i64 (c.m), .int .i64 (c.quorum), .int .i64 (c.fresh), .int .i64 (c.grace), .int .i64 (c.window), .int .i64 (c.t0), .int .i64 (c.t1), .int .i64 (c.t2), .int .i64 (c.t3), .int .i64 (c.tol), .int .i64 (c.min), .int .i64 (c.max), .int .i64 (c.calmup), .int .i64 (c.calmdown), .int .i64 (c.podsup), .int .i64 (c.pctup), .int .i64 (c.podsdown), .int .i64 (c.pctdown), .int .i64 (c.period), .int .i64 (c.far), .int .i64 (c.strikes), .int .i64 (c.probe), .int .i64 (c.sectors), .int .u64 (c.seed)]) 0 rfl ag26 sz26 rfl rfl rfl) ?_ (hro := ro_s)
    refine TA.tk 1 3 rfl rfl rfl (Val.fieldAddr rfl fl26_0 sz3 rfl) ?_ (hro := ro_s)
    refine TA.tk 2 7 rfl rfl rfl (Val.load 0 rfl ag3 rfl rfl) ?_ (hro := ro_s)
    refine TA.one 3 (by kernel_rfl) ?_
    refine TO.dz 15 (some 11) rfl rfl rfl rfl (Does.makeSlice (n := N) (c := N) rfl rfl sl85 sz4 by4 ze4 rfl hN hN (by omega) (by omega) (by omega)) ?_
    rintro _ _ ⟨b4, rfl, rfl⟩
    rw [show zrep (Value.bool false).cells.toList N = (List.replicate N false).map Value.bool from zrep_bool N]
    refine ⟨ro_s, ?_⟩
    refine TA.tk 4 31 rfl rfl rfl (Val.buildS (cs := [.int .i64 (c.n), .int .i64 (c.f), .int .i64 (c.m), .int .i64 (c.quorum), .int .i64 (c.fresh), .int .i64 (c.grace), .int .i64 (c.window), .int .i64 (c.t0), .int .i64 (c.t1), .int .i64 (c.t2), .int .i64 (c.t3), .int .i64 (c.tol), .int .i64 (c.min), .int .i64 (c.max), .int .i64 (c.calmup), .int .i64 (c.calmdown), .int .i64 (c.podsup), .int .i64 (c.pctup), .int .i64 (c.podsdown), .int .i64 (c.pctdown), .int .i64 (c.period), .int .i64 (c.far), .int .i64 (c.strikes), .int .i64 (c.probe), .int .i64 (c.sectors), .int .u64 (c.seed), .slice none 0 0, .slice (some ⟨b4, 0, none⟩) N N, .slice none 0 0]) pl105 ze105 rfl (fill_step (pre := []) (mid := [.int .i64 (0), .int .i64 (0), .int .i64 (0), .int .i64 (0), .int .i64 (0), .int .i64 (0), .int .i64 (0), .int .i64 (0), .int .i64 (0), .int .i64 (0), .int .i64 (0), .int .i64 (0), .int .i64 (0), .int .i64 (0), .int .i64 (0), .int .i64 (0), .int .i64 (0), .int .i64 (0), .int .i64 (0), .int .i64 (0), .int .i64 (0), .int .i64 (0), .int .i64 (0), .int .i64 (0), .int .i64 (0), .int .u64 (0)]) (post := [.slice none 0 0, .slice none 0 0, .slice none 0 0]) rfl rfl rfl rfl (fill_step (pre := [.int .i64 (c.n), .int .i64 (c.f), .int .i64 (c.m), .int .i64 (c.quorum), .int .i64 (c.fresh), .int .i64 (c.grace), .int .i64 (c.window), .int .i64 (c.t0), .int .i64 (c.t1), .int .i64 (c.t2), .int .i64 (c.t3), .int .i64 (c.tol), .int .i64 (c.min), .int .i64 (c.max), .int .i64 (c.calmup), .int .i64 (c.calmdown), .int .i64 (c.podsup), .int .i64 (c.pctup), .int .i64 (c.podsdown), .int .i64 (c.pctdown), .int .i64 (c.period), .int .i64 (c.far), .int .i64 (c.strikes), .int .i64 (c.probe), .int .i64 (c.sectors), .int .u64 (c.seed), .slice none 0 0]) (mid := [.slice none 0 0]) (post := [.slice none 0 0]) rfl rfl rfl rfl rfl))) ?_ (hro := ro_s)
    refine TA.one 5 (by kernel_rfl) ?_
    refine TO.dz 63 (some 13) rfl rfl rfl rfl (Does.box rfl rfl) ?_
    rintro _ _ ⟨b6, rfl, rfl⟩
    refine ⟨ro_s, ?_⟩
    refine TA.tk 6 127 rfl rfl rfl (Val.assign rfl) ?_ (hro := ro_s)
    refine TA.done (by kernel_rfl) ?_
    refine AtX.then ?_
    refine TC.en (E' := [(1, _), (2, _), (3, _)]) ?_
    refine TC.seq ?_
    refine TC.seq ?_
    refine TC.heap (M' := rwo b6 c none 0 0 b4 N none 0 :: (b4, row 4 ((List.replicate N false).map Value.bool)) :: (b1, .cells #[.int .i64 (c.n), .int .i64 (c.f), .int .i64 (c.m), .int .i64 (c.quorum), .int .i64 (c.fresh), .int .i64 (c.grace), .int .i64 (c.window), .int .i64 (c.t0), .int .i64 (c.t1), .int .i64 (c.t2), .int .i64 (c.t3), .int .i64 (c.tol), .int .i64 (c.min), .int .i64 (c.max), .int .i64 (c.calmup), .int .i64 (c.calmdown), .int .i64 (c.podsup), .int .i64 (c.pctup), .int .i64 (c.podsdown), .int .i64 (c.pctdown), .int .i64 (c.period), .int .i64 (c.far), .int .i64 (c.strikes), .int .i64 (c.probe), .int .i64 (c.sectors), .int .u64 (c.seed)] 26 (0, 0)) :: M) (fun w h => h) ?_
    refine TC.region ?_
    refine TL.v (Val.assign rfl) ?_
    refine TL.nt ?_
    refine TC.block ?_
    refine TC.loop (ι := (Nat × Sl × List Sr)) (fun i => [(1, .pointer (some ⟨b1, 0, none⟩)), (3, .pointer (some ⟨b6, 0, none⟩)), (4, .int .i64 (i.1 : Nat))]) (fun i => rwo b6 c (slA i.2.1) i.1 (slC i.2.1) b4 N none 0 :: (b4, row 4 ((List.replicate N false).map Value.bool)) :: (b1, .cells #[.int .i64 (c.n), .int .i64 (c.f), .int .i64 (c.m), .int .i64 (c.quorum), .int .i64 (c.fresh), .int .i64 (c.grace), .int .i64 (c.window), .int .i64 (c.t0), .int .i64 (c.t1), .int .i64 (c.t2), .int .i64 (c.t3), .int .i64 (c.tol), .int .i64 (c.min), .int .i64 (c.max), .int .i64 (c.calmup), .int .i64 (c.calmdown), .int .i64 (c.podsup), .int .i64 (c.pctup), .int .i64 (c.podsdown), .int .i64 (c.pctdown), .int .i64 (c.period), .int .i64 (c.far), .int .i64 (c.strikes), .int .i64 (c.probe), .int .i64 (c.sectors), .int .u64 (c.seed)] 26 (0, 0)) :: (slH i.2.1 106 (i.2.2.map Sr.ptr) ++ (i.2.2.map (rsob c.seed) ++ M))) (fun i => i.1 ≤ N ∧ i.2.2.length = i.1 ∧ slOk i.2.1 1 i.1 (i.2.2.map Sr.ptr) ∧ ∀ (j : Nat) (r : Sr), i.2.2[j]? = some r → r.w = j ∧ r.g = 0 ∧ r.q = 0) (fun i => N - i.1) (0, none, []) ?_ (Sub.cons rfl (Sub.cons rfl (Sub.cons rfl (Sub.nil _)))) (fun _ h => h) ?_
    · exact ⟨by omega, rfl, slOk_nil 1, fun j r h => by simp at h⟩
    rintro ⟨k, σ, ss⟩ ⟨hk, hss, hok, hw⟩
    dsimp only at hk hss hok hw ⊢
    refine TC.seq ?_
    refine TC.sr ?_
    refine TL.v (Val.move rfl) ?_
    refine TL.v (Val.fieldAddr rfl fl26_0 sz3 rfl) ?_
    refine TL.v (Val.load 2 rfl ag3 rfl rfl) ?_
    refine TL.v (Val.lss rfl rfl) ?_
    refine TL.nt ?_
    refine TC.condP rfl (fun c2 => ?_) (fun c2 => ?_)
    · skip
      refine TC.skip ?_
      refine AtX.then ?_
      refine TC.seq ?_
      refine TC.block ?_
      refine TC.drawGM [13] [rwo b6 c (slA σ) k (slC σ) b4 N none 0, (b4, row 4 ((List.replicate N false).map Value.bool)), (b1, .cells #[.int .i64 (c.n), .int .i64 (c.f), .int .i64 (c.m), .int .i64 (c.quorum), .int .i64 (c.fresh), .int .i64 (c.grace), .int .i64 (c.window), .int .i64 (c.t0), .int .i64 (c.t1), .int .i64 (c.t2), .int .i64 (c.t3), .int .i64 (c.tol), .int .i64 (c.min), .int .i64 (c.max), .int .i64 (c.calmup), .int .i64 (c.calmdown), .int .i64 (c.podsup), .int .i64 (c.pctup), .int .i64 (c.podsdown), .int .i64 (c.pctdown), .int .i64 (c.period), .int .i64 (c.far), .int .i64 (c.strikes), .int .i64 (c.probe), .int .i64 (c.sectors), .int .u64 (c.seed)] 26 (0, 0))] [] mixed 14 ?_
      refine TG.tk false 0 1 rfl rfl rfl (Val.move rfl) ?_ (hro := (by first | exact Go.X.ro_nil | (repeat (first | exact Go.X.ro_pre3 | refine Go.X.ro_tail ?_ | refine Go.X.ro_app ?_))))
      refine TG.tk false 1 3 rfl rfl rfl (Val.move rfl) ?_ (hro := (by first | exact Go.X.ro_nil | (repeat (first | exact Go.X.ro_pre3 | refine Go.X.ro_tail ?_ | refine Go.X.ro_app ?_))))
      refine TG.tk false 2 7 rfl rfl rfl (Val.nilCheck rfl) ?_ (hro := (by first | exact Go.X.ro_nil | (repeat (first | exact Go.X.ro_pre3 | refine Go.X.ro_tail ?_ | refine Go.X.ro_app ?_))))
      refine TG.tk false 3 15 rfl rfl rfl (Val.fieldAddr rfl fl105_1 sz103 rfl) ?_ (hro := (by first | exact Go.X.ro_nil | (repeat (first | exact Go.X.ro_pre3 | refine Go.X.ro_tail ?_ | refine Go.X.ro_app ?_))))
      refine TG.tk false 4 31 rfl rfl rfl (Val.load 0 rfl ag103 rfl rfl) ?_ (hro := (by first | exact Go.X.ro_nil | (repeat (first | exact Go.X.ro_pre3 | refine Go.X.ro_tail ?_ | refine Go.X.ro_app ?_))))
      refine TG.tk false 5 63 rfl rfl rfl (Val.fieldAddr rfl fl26_22 sz24 rfl) ?_ (hro := (by first | exact Go.X.ro_nil | (repeat (first | exact Go.X.ro_pre3 | refine Go.X.ro_tail ?_ | refine Go.X.ro_app ?_))))
      refine TG.tk false 6 127 rfl rfl rfl (Val.load 2 rfl ag24 rfl rfl) ?_ (hro := (by first | exact Go.X.ro_nil | (repeat (first | exact Go.X.ro_pre3 | refine Go.X.ro_tail ?_ | refine Go.X.ro_app ?_))))
      refine TG.tk false 7 255 rfl rfl rfl (Val.move rfl) ?_ (hro := (by first | exact Go.X.ro_nil | (repeat (first | exact Go.X.ro_pre3 | refine Go.X.ro_tail ?_ | refine Go.X.ro_app ?_))))
      refine TG.one 8 (by kernel_rfl) ?_
      refine TP.dz false 511 (some 28) rfl rfl rfl rfl (Does.callF go54 rfl (refNS_fn c.seed k _ (by omega))) ?_
      rintro _ _ ⟨bs, rfl, rfl⟩
      refine ⟨(by first | exact Go.X.ro_nil | (repeat (first | exact Go.X.ro_pre3 | refine Go.X.ro_tail ?_ | refine Go.X.ro_app ?_))), ?_⟩
      refine TG.one 9 (by kernel_rfl) ?_
      refine TP.dz false 1023 (some 29) rfl rfl rfl rfl (Does.buildSlice sl103 sz106 ze106 (by decide) (by decide) rfl rfl rfl) ?_
      rintro _ _ ⟨bt, rfl, rfl⟩
      refine ⟨(by first | exact Go.X.ro_nil | (repeat (first | exact Go.X.ro_pre3 | refine Go.X.ro_tail ?_ | refine Go.X.ro_app ?_))), ?_⟩
      refine TG.one 10 (by kernel_rfl) ?_
      refine TP.dz false 2047 (some 30) rfl rfl rfl rfl (Does.appendS (xs := ss.map Sr.ptr) (ys := [.pointer (some ⟨bs, 0, none⟩)]) σ (rsO bs c.seed k 0 0 :: rwo b6 c (slA σ) k (slC σ) b4 N none 0 :: (b4, row 4 ((List.replicate N false).map Value.bool)) :: (b1, .cells #[.int .i64 (c.n), .int .i64 (c.f), .int .i64 (c.m), .int .i64 (c.quorum), .int .i64 (c.fresh), .int .i64 (c.grace), .int .i64 (c.window), .int .i64 (c.t0), .int .i64 (c.t1), .int .i64 (c.t2), .int .i64 (c.t3), .int .i64 (c.tol), .int .i64 (c.min), .int .i64 (c.max), .int .i64 (c.calmup), .int .i64 (c.calmdown), .int .i64 (c.podsup), .int .i64 (c.pctup), .int .i64 (c.podsdown), .int .i64 (c.pctdown), .int .i64 (c.period), .int .i64 (c.far), .int .i64 (c.strikes), .int .i64 (c.probe), .int .i64 (c.sectors), .int .u64 (c.seed)] 26 (0, 0)) :: (ss.map (rsob c.seed) ++ M)) (fun w h => ro_mv (A := [_, _, _, _]) w h.drop) rfl rfl sl103 sz106 by106 ze106 rfl hok (.inl ⟨_, _, rfl, ⟨106, us103⟩, .some (Rd.get (i := 0) rfl rfl)⟩) rfl (one_ptr bs) (by omega) (by omega)) ?_
      rintro _ _ ⟨σ1, rfl, hok1, rfl⟩
      refine ⟨(by first | exact Go.X.ro_nil | (repeat (first | exact Go.X.ro_pre3 | refine Go.X.ro_tail ?_ | refine Go.X.ro_app ?_))), ?_⟩
      refine TG.heap (M' := rwo b6 c (slA σ) k (slC σ) b4 N none 0 :: (b4, row 4 ((List.replicate N false).map Value.bool)) :: (b1, .cells #[.int .i64 (c.n), .int .i64 (c.f), .int .i64 (c.m), .int .i64 (c.quorum), .int .i64 (c.fresh), .int .i64 (c.grace), .int .i64 (c.window), .int .i64 (c.t0), .int .i64 (c.t1), .int .i64 (c.t2), .int .i64 (c.t3), .int .i64 (c.tol), .int .i64 (c.min), .int .i64 (c.max), .int .i64 (c.calmup), .int .i64 (c.calmdown), .int .i64 (c.podsup), .int .i64 (c.pctup), .int .i64 (c.podsdown), .int .i64 (c.pctdown), .int .i64 (c.period), .int .i64 (c.far), .int .i64 (c.strikes), .int .i64 (c.probe), .int .i64 (c.sectors), .int .u64 (c.seed)] 26 (0, 0)) :: (slH σ1 106 (ss.map Sr.ptr ++ [.pointer (some ⟨bs, 0, none⟩)]) ++ rsO bs c.seed k 0 0 :: (ss.map (rsob c.seed) ++ M))) ro_4 ?_
      refine TG.tw false 11 4095 rfl rfl rfl (Val.nilCheck rfl) ?_ (hro := (by first | exact Go.X.ro_nil | (repeat (first | exact Go.X.ro_pre3 | refine Go.X.ro_tail ?_ | refine Go.X.ro_app ?_))))
      refine TG.tk false 12 8191 rfl rfl rfl (Val.fieldAddr rfl fl105_1 sz103 rfl) ?_ (hro := (by first | exact Go.X.ro_nil | (repeat (first | exact Go.X.ro_pre3 | refine Go.X.ro_tail ?_ | refine Go.X.ro_app ?_))))
      refine TG.one 13 (by kernel_rfl) ?_
      refine TP.dz true 16383 none rfl rfl rfl rfl (Does.store (i := 0) rfl rfl rfl sz103 rfl rfl (by first | exact Nat.le_of_ble_eq_true rfl | decide | omega) rfl rfl) ?_
      rintro _ _ ⟨rfl, rfl⟩
      refine ⟨(by first | exact Go.X.ro_nil | (repeat (first | exact Go.X.ro_pre3 | refine Go.X.ro_tail ?_ | refine Go.X.ro_app ?_))), ?_⟩
      refine TG.done (by kernel_rfl) ?_ _
      refine AtX.blk ?_
      refine AtX.then ?_
      refine TC.region ?_
      refine TL.v (Val.move rfl) ?_
      refine TL.v (Val.add rfl rfl (w_i64 (by omega) (by omega))) ?_
      refine TL.v (Val.assign rfl) ?_
      refine TL.nil ?_
      refine AtX.round (i := (k, σ, ss)) (k + 1, σ1, ss ++ [⟨bs, k, 0, 0⟩]) ?_ ?_ (Sub.cons rfl (Sub.cons rfl (Sub.cons rfl (Sub.nil _)))) (fun w h => by dsimp only; rw [List.map_append, List.map_append]; exact ro_in (A := [_, _, _]) w h)
      · exact ⟨by omega, by simp [hss], by dsimp only; rw [List.map_append]; exact hok1, get_push hw ⟨by rw [hss], rfl, rfl⟩⟩
      · show N - (k + 1) < N - k; omega
    · skip
      refine TC.exit ?_
      refine AtX.seqX ?_
      refine AtX.seqX ?_
      refine AtX.hit ?_
      refine AtX.then ?_
      refine TC.seq ?_
      have hkN : k = N := by omega
      subst hkN
      obtain ⟨bl, cl, spl, rfl, hcl⟩ := hok.some (by omega)
      refine TC.region ?_
      refine TL.v (Val.move rfl) ?_
      refine TL.v (Val.assign rfl) ?_
      refine TL.nt ?_
      refine TC.en (E' := [(2, _)]) ?_
      refine TC.r1 (hM := (fun w h => ro_del 2 rfl w h)) (M' := rwo b6 c (some ⟨bl, 0, none⟩) k cl b4 k none 0 :: (b4, row 4 ((List.replicate k false).map Value.bool)) :: (bl, row 106 (ss.map Sr.ptr ++ spl)) :: (ss.map (rsob c.seed) ++ M)) (fn := Try.f18) (fun _ _ h => h) rfl (RV.tmp rfl) ?_
      exact ⟨b6, bl, cl, spl, b4, ss, rfl, hss, hw, rfl⟩

end Go.Proofs.Ytphoapajlcaoeaa
/- walks -/
set_option linter.unusedVariables false
set_option linter.unusedSimpArgs false
set_option maxRecDepth 100000
set_option maxHeartbeats 4000000
namespace Go.Proofs.Ytphoapajlcaoeaa
open Go Go.X
/-- (*quorumite/adverse.World).has -/
theorem has_nil (k : Int) (M : Hp) : FnC Try.prog 46 #[.pointer none, .int .i64 k] M (fun v M' => v = .int .i64 1 ∧ M = M') := by
  refine FnC.intro Try.func46 rfl 20 rfl (by simp) (fun z => ?_)
  refine TC.env (E' := [(0, _), (1, _)]) (Sub.cons rfl (Sub.cons rfl (Sub.nil _))) ?_
  refine TC.seq ?_
  refine TC.region ?_
  refine TL.val rfl rfl (Nat.le_of_ble_eq_true rfl) (Val.assign rfl) ?_
  refine TL.nil ?_
  refine AtX.then ?_
  refine TC.seq ?_
  refine TC.block ?_
  refine TC.seq ?_
  refine TC.region ?_
  refine TL.val rfl rfl (Nat.le_of_ble_eq_true rfl) (Val.move rfl) ?_
  refine TL.val rfl rfl (Nat.le_of_ble_eq_true rfl) (Val.eqlNil rfl rfl pt28) ?_
  refine TL.val rfl rfl (Nat.le_of_ble_eq_true rfl) (Val.assign rfl) ?_
  refine TL.nil ?_
  refine AtX.then ?_
  refine TC.env (E' := [(0, _), (1, _), (4, _), (5, _)]) (Sub.cons rfl (Sub.cons rfl (Sub.cons rfl (Sub.cons rfl (Sub.nil _))))) ?_
  first | refine TC.condP rfl (fun c1 => ?_) (fun c1 => ?_) | refine TC.condN rfl (fun c1 => ?_) (fun c1 => ?_) | refine TC.condB rfl (fun c1 => ?_) (fun c1 => ?_) | refine TC.cond rfl (fun c1 => ?_) (fun c1 => ?_)
  · skip
    refine TC.env (E' := [(4, _)]) (Sub.cons rfl (Sub.nil _)) ?_
    refine TC.seq ?_
    refine TC.region ?_
    refine TL.val rfl rfl (Nat.le_of_ble_eq_true rfl) (Val.assign rfl) ?_
    refine TL.nil ?_
    refine AtX.then ?_
    refine TC.env (E' := [(4, _)]) (Sub.cons rfl (Sub.nil _)) ?_
    refine TC.ret1 (fn := Try.f46) (fun _ _ h => h) rfl (RV.tmp rfl) (fun _ h => h) ?_
    exact ⟨rfl, rfl⟩
  · skip
    (exfalso; simp at c1)

/-- (*quorumite/adverse.World).has -/
theorem has_ok (b i : Nat) (c : Cf) (A : Option Addr) (nl cl bb N : Nat) (σ : Sl) (nk : Nat) (n : Int) (H : Hp) (hi : H[i]? = some (wob b c A nl cl bb N σ nk n)) (k : Nat) (hk : k < nl) : FnC Try.prog 46 #[.pointer (some ⟨b, 0, none⟩), .int .i64 (k : Nat)] H (fun v M' => v = .int .i64 0 ∧ H = M') := by
  refine FnC.intro Try.func46 rfl 20 rfl (by simp) (fun z => ?_)
  refine TC.env (E' := [(0, _), (1, _)]) (Sub.cons rfl (Sub.cons rfl (Sub.nil _))) ?_
  refine TC.seq ?_
  refine TC.region ?_
  refine TL.val rfl rfl (Nat.le_of_ble_eq_true rfl) (Val.assign rfl) ?_
  refine TL.nil ?_
  refine AtX.then ?_
  refine TC.seq ?_
  refine TC.block ?_
  refine TC.seq ?_
  refine TC.region ?_
  refine TL.val rfl rfl (Nat.le_of_ble_eq_true rfl) (Val.move rfl) ?_
  refine TL.val rfl rfl (Nat.le_of_ble_eq_true rfl) (Val.eqlNil rfl rfl pt28) ?_
  refine TL.val rfl rfl (Nat.le_of_ble_eq_true rfl) (Val.assign rfl) ?_
  refine TL.nil ?_
  refine AtX.then ?_
  refine TC.env (E' := [(0, _), (1, _), (4, _), (5, _)]) (Sub.cons rfl (Sub.cons rfl (Sub.cons rfl (Sub.cons rfl (Sub.nil _))))) ?_
  first | refine TC.condP rfl (fun c1 => ?_) (fun c1 => ?_) | refine TC.condN rfl (fun c1 => ?_) (fun c1 => ?_) | refine TC.condB rfl (fun c1 => ?_) (fun c1 => ?_) | refine TC.cond rfl (fun c1 => ?_) (fun c1 => ?_)
  · skip
    (exfalso; simp at c1)
  · skip
    refine TC.env (E' := [(0, _), (1, _), (4, _)]) (Sub.cons rfl (Sub.cons rfl (Sub.cons rfl (Sub.nil _)))) ?_
    refine TC.seq ?_
    refine TC.region ?_
    refine TL.val rfl rfl (Nat.le_of_ble_eq_true rfl) (Val.move rfl) ?_
    refine TL.val rfl rfl (Nat.le_of_ble_eq_true rfl) (Val.lss rfl rfl) ?_
    refine TL.val rfl rfl (Nat.le_of_ble_eq_true rfl) (Val.move rfl) ?_
    refine TL.gen (fun g1 hg1 => ?_)
    refine TL.gval rfl rfl (Nat.le_of_ble_eq_true rfl) rfl (Nat.le_of_ble_eq_true rfl) rfl (fun hg => by subst hg; exact (Val.move rfl)) ?_
    refine TL.gval rfl rfl (Nat.le_of_ble_eq_true rfl) rfl (Nat.le_of_ble_eq_true rfl) rfl (fun hg => by subst hg; exact (Val.move rfl)) ?_
    refine TL.gval rfl rfl (Nat.le_of_ble_eq_true rfl) rfl (Nat.le_of_ble_eq_true rfl) rfl (fun hg => by subst hg; exact (Val.nilCheck rfl)) ?_
    refine TL.gval rfl rfl (Nat.le_of_ble_eq_true rfl) rfl (Nat.le_of_ble_eq_true rfl) rfl (fun hg => by subst hg; exact (Val.fieldAddr rfl fl94_1 sz86 rfl)) ?_
    refine TL.gval rfl rfl (Nat.le_of_ble_eq_true rfl) rfl (Nat.le_of_ble_eq_true rfl) rfl (fun hg => by subst hg; exact (Val.load i rfl ag86 hi rfl)) ?_
    refine TL.gval rfl rfl (Nat.le_of_ble_eq_true rfl) rfl (Nat.le_of_ble_eq_true rfl) rfl (fun hg => by subst hg; exact (Val.lenSl rfl rfl sl86)) ?_
    refine TL.gval rfl rfl (Nat.le_of_ble_eq_true rfl) rfl (Nat.le_of_ble_eq_true rfl) rfl (fun hg => by subst hg; exact (Val.geq rfl rfl)) ?_
    refine TL.val rfl rfl (Nat.le_of_ble_eq_true rfl) (Val.pickOr rfl rfl rfl) ?_
    refine TL.val rfl rfl (Nat.le_of_ble_eq_true rfl) (Val.assign rfl) ?_
    refine TL.nil ?_
    refine AtX.then ?_
    refine TC.env (E' := [(4, _), (8, _)]) (Sub.cons rfl (Sub.cons rfl (Sub.nil _))) ?_
    first | refine TC.condP rfl (fun c2 => ?_) (fun c2 => ?_) | refine TC.condN rfl (fun c2 => ?_) (fun c2 => ?_) | refine TC.condB rfl (fun c2 => ?_) (fun c2 => ?_) | refine TC.cond rfl (fun c2 => ?_) (fun c2 => ?_)
    · skip
      (exfalso; grind)
    · skip
      refine TC.env (E' := [(4, _)]) (Sub.cons rfl (Sub.nil _)) ?_
      refine TC.skip ?_
      refine AtX.blk ?_
      refine AtX.then ?_
      refine TC.env (E' := [(4, _)]) (Sub.cons rfl (Sub.nil _)) ?_
      refine TC.seq ?_
      refine TC.region ?_
      refine TL.val rfl rfl (Nat.le_of_ble_eq_true rfl) (Val.assign rfl) ?_
      refine TL.nil ?_
      refine AtX.then ?_
      refine TC.env (E' := [(4, _)]) (Sub.cons rfl (Sub.nil _)) ?_
      refine TC.ret1 (fn := Try.f46) (fun _ _ h => h) rfl (RV.tmp rfl) (fun _ h => h) ?_
      exact ⟨rfl, rfl⟩

/-- (*quorumite/adverse.World).has -/
theorem has_no (b i : Nat) (c : Cf) (A : Option Addr) (nl cl bb N : Nat) (σ : Sl) (nk : Nat) (n : Int) (H : Hp) (hi : H[i]? = some (wob b c A nl cl bb N σ nk n)) (k : Int) (hk : k < 0 ∨ nl ≤ k) : FnC Try.prog 46 #[.pointer (some ⟨b, 0, none⟩), .int .i64 k] H (fun v M' => v = .int .i64 3 ∧ H = M') := by
  refine FnC.intro Try.func46 rfl 20 rfl (by simp) (fun z => ?_)
  refine TC.env (E' := [(0, _), (1, _)]) (Sub.cons rfl (Sub.cons rfl (Sub.nil _))) ?_
  refine TC.seq ?_
  refine TC.region ?_
  refine TL.val rfl rfl (Nat.le_of_ble_eq_true rfl) (Val.assign rfl) ?_
  refine TL.nil ?_
  refine AtX.then ?_
  refine TC.seq ?_
  refine TC.block ?_
  refine TC.seq ?_
  refine TC.region ?_
  refine TL.val rfl rfl (Nat.le_of_ble_eq_true rfl) (Val.move rfl) ?_
  refine TL.val rfl rfl (Nat.le_of_ble_eq_true rfl) (Val.eqlNil rfl rfl pt28) ?_
  refine TL.val rfl rfl (Nat.le_of_ble_eq_true rfl) (Val.assign rfl) ?_
  refine TL.nil ?_
  refine AtX.then ?_
  refine TC.env (E' := [(0, _), (1, _), (4, _), (5, _)]) (Sub.cons rfl (Sub.cons rfl (Sub.cons rfl (Sub.cons rfl (Sub.nil _))))) ?_
  first | refine TC.condP rfl (fun c1 => ?_) (fun c1 => ?_) | refine TC.condN rfl (fun c1 => ?_) (fun c1 => ?_) | refine TC.condB rfl (fun c1 => ?_) (fun c1 => ?_) | refine TC.cond rfl (fun c1 => ?_) (fun c1 => ?_)
  · skip
    (exfalso; simp at c1)
  · skip
    refine TC.env (E' := [(0, _), (1, _), (4, _)]) (Sub.cons rfl (Sub.cons rfl (Sub.cons rfl (Sub.nil _)))) ?_
    refine TC.seq ?_
    refine TC.region ?_
    refine TL.val rfl rfl (Nat.le_of_ble_eq_true rfl) (Val.move rfl) ?_
    refine TL.val rfl rfl (Nat.le_of_ble_eq_true rfl) (Val.lss rfl rfl) ?_
    refine TL.val rfl rfl (Nat.le_of_ble_eq_true rfl) (Val.move rfl) ?_
    refine TL.gen (fun g1 hg1 => ?_)
    refine TL.gval rfl rfl (Nat.le_of_ble_eq_true rfl) rfl (Nat.le_of_ble_eq_true rfl) rfl (fun hg => by subst hg; exact (Val.move rfl)) ?_
    refine TL.gval rfl rfl (Nat.le_of_ble_eq_true rfl) rfl (Nat.le_of_ble_eq_true rfl) rfl (fun hg => by subst hg; exact (Val.move rfl)) ?_
    refine TL.gval rfl rfl (Nat.le_of_ble_eq_true rfl) rfl (Nat.le_of_ble_eq_true rfl) rfl (fun hg => by subst hg; exact (Val.nilCheck rfl)) ?_
    refine TL.gval rfl rfl (Nat.le_of_ble_eq_true rfl) rfl (Nat.le_of_ble_eq_true rfl) rfl (fun hg => by subst hg; exact (Val.fieldAddr rfl fl94_1 sz86 rfl)) ?_
    refine TL.gval rfl rfl (Nat.le_of_ble_eq_true rfl) rfl (Nat.le_of_ble_eq_true rfl) rfl (fun hg => by subst hg; exact (Val.load i rfl ag86 hi rfl)) ?_
    refine TL.gval rfl rfl (Nat.le_of_ble_eq_true rfl) rfl (Nat.le_of_ble_eq_true rfl) rfl (fun hg => by subst hg; exact (Val.lenSl rfl rfl sl86)) ?_
    refine TL.gval rfl rfl (Nat.le_of_ble_eq_true rfl) rfl (Nat.le_of_ble_eq_true rfl) rfl (fun hg => by subst hg; exact (Val.geq rfl rfl)) ?_
    refine TL.val rfl rfl (Nat.le_of_ble_eq_true rfl) (Val.pickOr rfl rfl rfl) ?_
    refine TL.val rfl rfl (Nat.le_of_ble_eq_true rfl) (Val.assign rfl) ?_
    refine TL.nil ?_
    refine AtX.then ?_
    refine TC.env (E' := [(4, _), (8, _)]) (Sub.cons rfl (Sub.cons rfl (Sub.nil _))) ?_
    first | refine TC.condP rfl (fun c2 => ?_) (fun c2 => ?_) | refine TC.condN rfl (fun c2 => ?_) (fun c2 => ?_) | refine TC.condB rfl (fun c2 => ?_) (fun c2 => ?_) | refine TC.cond rfl (fun c2 => ?_) (fun c2 => ?_)
    · skip
      refine TC.env (E' := [(4, _)]) (Sub.cons rfl (Sub.nil _)) ?_
      refine TC.seq ?_
      refine TC.region ?_
      refine TL.val rfl rfl (Nat.le_of_ble_eq_true rfl) (Val.assign rfl) ?_
      refine TL.nil ?_
      refine AtX.then ?_
      refine TC.env (E' := [(4, _)]) (Sub.cons rfl (Sub.nil _)) ?_
      refine TC.ret1 (fn := Try.f46) (fun _ _ h => h) rfl (RV.tmp rfl) (fun _ h => h) ?_
      exact ⟨rfl, rfl⟩
    · skip
      (exfalso; grind)

/-- (*quorumite/adverse.World).Bad -/
theorem Bad_nil (M : Hp) : FnC Try.prog 15 #[.pointer none] M (fun v M' => v = .slice none 0 0 ∧ M = M') := by
  refine FnC.intro Try.func15 rfl 25 rfl (by simp) (fun z => ?_)
  refine TC.env (E' := [(0, _)]) (Sub.cons rfl (Sub.nil _)) ?_
  refine TC.seq ?_
  refine TC.region ?_
  refine TL.val rfl rfl (Nat.le_of_ble_eq_true rfl) (Val.assign rfl) ?_
  refine TL.nil ?_
  refine AtX.then ?_
  refine TC.seq ?_
  refine TC.seq ?_
  refine TC.region ?_
  refine TL.val rfl rfl (Nat.le_of_ble_eq_true rfl) (Val.move rfl) ?_
  refine TL.val rfl rfl (Nat.le_of_ble_eq_true rfl) (Val.eqlNil rfl rfl pt28) ?_
  refine TL.nil ?_
  refine AtX.then ?_
  refine TC.env (E' := [(0, _), (2, _), (7, _)]) (Sub.cons rfl (Sub.cons rfl (Sub.cons rfl (Sub.nil _)))) ?_
  first | refine TC.condP rfl (fun c1 => ?_) (fun c1 => ?_) | refine TC.condN rfl (fun c1 => ?_) (fun c1 => ?_) | refine TC.condB rfl (fun c1 => ?_) (fun c1 => ?_) | refine TC.cond rfl (fun c1 => ?_) (fun c1 => ?_)
  · skip
    refine TC.env (E' := [(0, _), (2, _)]) (Sub.cons rfl (Sub.cons rfl (Sub.nil _))) ?_
    refine TC.seq ?_
    refine TC.region ?_
    refine TL.val rfl rfl (Nat.le_of_ble_eq_true rfl) (Val.assign rfl) ?_
    refine TL.nil ?_
    refine AtX.then ?_
    refine TC.env (E' := [(0, _), (2, _)]) (Sub.cons rfl (Sub.cons rfl (Sub.nil _))) ?_
    refine TC.ret1 (fn := Try.f15) (fun _ _ h => h) rfl (RV.tmp rfl) (fun _ h => h) ?_
    exact ⟨rfl, rfl⟩
  · skip
    (exfalso; simp at c1)

/-- (*quorumite/adverse.World).Bad -/
theorem Bad_fn (b i j : Nat) (c : Cf) (A : Option Addr) (nl cl bb : Nat) (σ : Sl) (nk : Nat) (n : Int) (l : List Bool) (H : Hp) (hi : H[i]? = some (wob b c A nl cl bb l.length σ nk n)) (hj : H[j]? = some (bb, row 4 (l.map Value.bool))) (hl : l.length ≤ 1000) : FnC Try.prog 15 #[.pointer (some ⟨b, 0, none⟩)] H (fun v M' => ∃ τ, v = .slice (slA τ) (bads l).length (slC τ) ∧ slOk τ 1 (bads l).length ((bads l).map (Value.int .i64)) ∧ M' = slH τ 3 ((bads l).map (Value.int .i64)) ++ H) := by
  have hR := rd_rowA hj
  refine FnC.intro Try.func15 rfl 25 rfl (by simp) (fun z => ?_)
  refine TC.env (E' := [(0, _)]) (Sub.cons rfl (Sub.nil _)) ?_
  refine TC.seq ?_
  refine TC.region ?_
  refine TL.val rfl rfl (Nat.le_of_ble_eq_true rfl) (Val.assign rfl) ?_
  refine TL.nil ?_
  refine AtX.then ?_
  refine TC.seq ?_
  refine TC.seq ?_
  refine TC.region ?_
  refine TL.val rfl rfl (Nat.le_of_ble_eq_true rfl) (Val.move rfl) ?_
  refine TL.val rfl rfl (Nat.le_of_ble_eq_true rfl) (Val.eqlNil rfl rfl pt28) ?_
  refine TL.nil ?_
  refine AtX.then ?_
  refine TC.env (E' := [(0, _), (2, _), (7, _)]) (Sub.cons rfl (Sub.cons rfl (Sub.cons rfl (Sub.nil _)))) ?_
  first | refine TC.condP rfl (fun c1 => ?_) (fun c1 => ?_) | refine TC.condN rfl (fun c1 => ?_) (fun c1 => ?_) | refine TC.condB rfl (fun c1 => ?_) (fun c1 => ?_) | refine TC.cond rfl (fun c1 => ?_) (fun c1 => ?_)
  · skip
    (exfalso; simp at c1)
  · skip
    refine TC.env (E' := [(0, _), (2, _)]) (Sub.cons rfl (Sub.cons rfl (Sub.nil _))) ?_
    refine TC.skip ?_
    refine AtX.then ?_
    refine TC.env (E' := [(0, _), (2, _)]) (Sub.cons rfl (Sub.cons rfl (Sub.nil _))) ?_
    refine TC.seq ?_
    refine TC.region ?_
    refine TL.val rfl rfl (Nat.le_of_ble_eq_true rfl) (Val.assign rfl) ?_
    refine TL.nil ?_
    refine AtX.then ?_
    refine TC.env (E' := [(0, _), (2, _), (3, _)]) (Sub.cons rfl (Sub.cons rfl (Sub.cons rfl (Sub.nil _)))) ?_
    refine TC.seq ?_
    refine TC.seq ?_
    refine TC.region ?_
    refine TL.val rfl rfl (Nat.le_of_ble_eq_true rfl) (Val.move rfl) ?_
    refine TL.val rfl rfl (Nat.le_of_ble_eq_true rfl) (Val.nilCheck rfl) ?_
    refine TL.val rfl rfl (Nat.le_of_ble_eq_true rfl) (Val.fieldAddr rfl fl94_2 sz85 rfl) ?_
    refine TL.val rfl rfl (Nat.le_of_ble_eq_true rfl) (Val.load i rfl ag85 hi rfl) ?_
    refine TL.val rfl rfl (Nat.le_of_ble_eq_true rfl) (Val.lenSl rfl rfl sl85) ?_
    refine TL.val rfl rfl (Nat.le_of_ble_eq_true rfl) (Val.move rfl) ?_
    refine TL.nil ?_
    refine AtX.then ?_
    refine TC.env (E' := [(2, _), (3, _), (11, _), (12, _), (13, _)]) (Sub.cons rfl (Sub.cons rfl (Sub.cons rfl (Sub.cons rfl (Sub.cons rfl (Sub.nil _)))))) ?_
    refine TC.block ?_
    refine TC.loop (ι := (Nat × Sl)) (fun i => [(3, .slice (slA i.2) (badTo l i.1).length (slC i.2)), (11, .slice (some ⟨bb, 0, none⟩) l.length l.length), (12, .int .i64 (l.length : Nat)), (13, .int .i64 (i.1 : Nat))]) (fun i => slH i.2 3 ((badTo l i.1).map (Value.int .i64)) ++ H) (fun i => i.1 ≤ l.length ∧ slOk i.2 1 (badTo l i.1).length ((badTo l i.1).map (Value.int .i64))) (fun i => l.length - i.1) (0, none) ?_ (Sub.cons rfl (Sub.cons rfl (Sub.cons rfl (Sub.cons rfl (Sub.nil _))))) (fun _ h => h) ?_
    · exact ⟨Nat.zero_le _, slOk_nil 1⟩
    rintro ⟨k, τ⟩ ⟨hk, hok⟩
    dsimp only at hk hok ⊢
    refine TC.seq ?_
    refine TC.region ?_
    refine TL.val rfl rfl (Nat.le_of_ble_eq_true rfl) (Val.lss rfl rfl) ?_
    refine TL.nil ?_
    refine AtX.then ?_
    refine TC.seq ?_
    first | refine TC.condP rfl (fun c2 => ?_) (fun c2 => ?_) | refine TC.condN rfl (fun c2 => ?_) (fun c2 => ?_) | refine TC.condB rfl (fun c2 => ?_) (fun c2 => ?_) | refine TC.cond rfl (fun c2 => ?_) (fun c2 => ?_)
    · skip
      refine TC.skip ?_
      refine AtX.then ?_
      refine TC.seq ?_
      refine TC.block ?_
      refine TC.seq ?_
      have hlt : k < l.length := by omega
      obtain ⟨x, hx⟩ : ∃ x, l[k]? = some x := ⟨_, List.getElem?_eq_getElem hlt⟩
      have hle := badTo_le l k
      refine TC.region ?_
      refine TL.val rfl rfl (Nat.le_of_ble_eq_true rfl) (Val.move rfl) ?_
      refine TL.val rfl rfl (Nat.le_of_ble_eq_true rfl) (Val.indexAddr (i := k) (r := k) rfl rfl sl85 sz4 rfl hlt (by omega)) ?_
      refine TL.val rfl rfl (Nat.le_of_ble_eq_true rfl) (Val.loadRd (o := 0) (j := k) (v := .bool x) rfl ag4 (Rd.app _ hR) (by omega) (map_get hx)) ?_
      refine TL.val rfl rfl (Nat.le_of_ble_eq_true rfl) (Val.assign rfl) ?_
      refine TL.val rfl rfl (Nat.le_of_ble_eq_true rfl) (Val.assign rfl) ?_
      refine TL.nil ?_
      refine AtX.then ?_
      refine TC.seq ?_
      refine TC.region ?_
      refine TL.val rfl rfl (Nat.le_of_ble_eq_true rfl) (Val.move rfl) ?_
      refine TL.nil ?_
      refine AtX.then ?_
      first | refine TC.condP rfl (fun c3 => ?_) (fun c3 => ?_) | refine TC.condN rfl (fun c3 => ?_) (fun c3 => ?_) | refine TC.condB rfl (fun c3 => ?_) (fun c3 => ?_) | refine TC.cond rfl (fun c3 => ?_) (fun c3 => ?_)
      · skip
        refine TC.region ?_
        refine TL.val rfl rfl (Nat.le_of_ble_eq_true rfl) (Val.move rfl) ?_
        refine TL.val rfl rfl (Nat.le_of_ble_eq_true rfl) (Val.move rfl) ?_
        refine TL.does (some 21) rfl rfl rfl (Does.buildSlice sl22 sz3 ze3 (by decide) (by decide) rfl rfl rfl) ?_
        rintro _ _ ⟨b1, rfl, rfl⟩
        refine TL.does (some 22) rfl rfl rfl (Does.appendS (xs := (badTo l k).map (Value.int .i64)) (ys := [Value.int .i64 (k : Nat)]) τ H (ro_tail ro_refl) rfl rfl sl22 sz3 by3 ze3 rfl hok (.inl ⟨_, _, rfl, ⟨3, us22⟩, .some (Rd.get (i := 0) rfl rfl)⟩) rfl (one_int _ _) (by omega) (by omega)) ?_
        rintro _ _ ⟨τ1, rfl, hok1, rfl⟩
        refine TL.val rfl rfl (Nat.le_of_ble_eq_true rfl) (Val.assign rfl) ?_
        refine TL.nil ?_
        refine AtX.blk ?_
        refine AtX.then ?_
        refine TC.region ?_
        refine TL.val rfl rfl (Nat.le_of_ble_eq_true rfl) (Val.add rfl rfl (w_i64 (by omega) (by omega))) ?_
        refine TL.val rfl rfl (Nat.le_of_ble_eq_true rfl) (Val.move rfl) ?_
        refine TL.nil ?_
        refine AtX.round (i := (k, τ)) (k + 1, τ1) ?_ ?_ (Sub.cons (by dsimp only; rw [badTo_t hx c3, List.length_append]; rfl) (Sub.cons rfl (Sub.cons rfl (Sub.cons rfl (Sub.nil _))))) (fun w h => by dsimp only; rw [badTo_t hx c3, List.map_append]; exact h)
        · exact ⟨by omega, by dsimp only; rw [badTo_t hx c3, List.map_append, List.length_append]; exact hok1⟩
        · show l.length - (k + 1) < l.length - k; omega
      · skip
        refine TC.skip ?_
        refine AtX.blk ?_
        refine AtX.then ?_
        refine TC.region ?_
        refine TL.val rfl rfl (Nat.le_of_ble_eq_true rfl) (Val.add rfl rfl (w_i64 (by omega) (by omega))) ?_
        refine TL.val rfl rfl (Nat.le_of_ble_eq_true rfl) (Val.move rfl) ?_
        refine TL.nil ?_
        refine AtX.round (i := (k, τ)) (k + 1, τ) ?_ ?_ (Sub.cons (by dsimp only; rw [badTo_f hx c3]; rfl) (Sub.cons rfl (Sub.cons rfl (Sub.cons rfl (Sub.nil _))))) (fun w h => by dsimp only; rw [badTo_f hx c3]; exact h)
        · exact ⟨by omega, by dsimp only; rw [badTo_f hx c3]; exact hok⟩
        · show l.length - (k + 1) < l.length - k; omega
    · skip
      refine TC.exit ?_
      refine AtX.seqX ?_
      refine AtX.seqX ?_
      refine AtX.hit ?_
      refine AtX.then ?_
      refine TC.env (E' := [(3, _)]) (Sub.cons rfl (Sub.nil _)) ?_
      refine TC.seq ?_
      have hkl : k = l.length := by omega
      subst hkl
      refine TC.region ?_
      refine TL.val rfl rfl (Nat.le_of_ble_eq_true rfl) (Val.move rfl) ?_
      refine TL.val rfl rfl (Nat.le_of_ble_eq_true rfl) (Val.assign rfl) ?_
      refine TL.nil ?_
      refine AtX.then ?_
      refine TC.env (E' := [(2, _)]) (Sub.cons rfl (Sub.nil _)) ?_
      refine TC.ret1 (fn := Try.f15) (fun _ _ h => h) rfl (RV.tmp rfl) (fun _ h => h) ?_
      exact ⟨τ, rfl, hok, rfl⟩

end Go.Proofs.Ytphoapajlcaoeaa
/- walks -/
set_option linter.unusedVariables false
set_option linter.unusedSimpArgs false
set_option maxRecDepth 100000
set_option maxHeartbeats 4000000
namespace Go.Proofs.Ytphoapajlcaoeaa
open Go Go.X
/-- (*quorumite/adverse.World).Corrupt -/
theorem Corrupt_nil (k : Int) (M : Hp) : FnC Try.prog 14 #[.pointer none, .int .i64 k] M (fun v M' => v = .int .i64 1 ∧ M = M') := by
  refine FnC.intro Try.func14 rfl 37 rfl (by simp) (fun z => ?_)
  refine TC.env (E' := [(0, _), (1, _)]) (Sub.cons rfl (Sub.cons rfl (Sub.nil _))) ?_
  refine TC.seq ?_
  refine TC.region ?_
  refine TL.val rfl rfl (Nat.le_of_ble_eq_true rfl) (Val.assign rfl) ?_
  refine TL.nil ?_
  refine AtX.then ?_
  refine TC.seq ?_
  refine TC.seq ?_
  refine TC.region ?_
  refine TL.val rfl rfl (Nat.le_of_ble_eq_true rfl) (Val.move rfl) ?_
  refine TL.val rfl rfl (Nat.le_of_ble_eq_true rfl) (Val.move rfl) ?_
  refine TL.does (some 8) rfl rfl rfl (Does.callF go46 rfl (has_nil k _)) ?_
  rintro _ _ ⟨rfl, rfl⟩
  refine TL.val rfl rfl (Nat.le_of_ble_eq_true rfl) (Val.assign rfl) ?_
  refine TL.nil ?_
  refine AtX.then ?_
  refine TC.env (E' := [(0, _), (1, _), (4, _), (5, _)]) (Sub.cons rfl (Sub.cons rfl (Sub.cons rfl (Sub.cons rfl (Sub.nil _))))) ?_
  refine TC.seq ?_
  refine TC.region ?_
  refine TL.val rfl rfl (Nat.le_of_ble_eq_true rfl) (Val.move rfl) ?_
  refine TL.val rfl rfl (Nat.le_of_ble_eq_true rfl) (Val.neqI rfl rfl) ?_
  refine TL.nil ?_
  refine AtX.then ?_
  refine TC.env (E' := [(0, _), (1, _), (4, _), (5, _), (10, _)]) (Sub.cons rfl (Sub.cons rfl (Sub.cons rfl (Sub.cons rfl (Sub.cons rfl (Sub.nil _)))))) ?_
  first | refine TC.condP rfl (fun c1 => ?_) (fun c1 => ?_) | refine TC.condN rfl (fun c1 => ?_) (fun c1 => ?_) | refine TC.condB rfl (fun c1 => ?_) (fun c1 => ?_) | refine TC.cond rfl (fun c1 => ?_) (fun c1 => ?_)
  · skip
    refine TC.env (E' := [(0, _), (1, _), (4, _), (5, _)]) (Sub.cons rfl (Sub.cons rfl (Sub.cons rfl (Sub.cons rfl (Sub.nil _))))) ?_
    refine TC.seq ?_
    refine TC.region ?_
    refine TL.val rfl rfl (Nat.le_of_ble_eq_true rfl) (Val.move rfl) ?_
    refine TL.val rfl rfl (Nat.le_of_ble_eq_true rfl) (Val.assign rfl) ?_
    refine TL.nil ?_
    refine AtX.then ?_
    refine TC.env (E' := [(0, _), (1, _), (4, _)]) (Sub.cons rfl (Sub.cons rfl (Sub.cons rfl (Sub.nil _)))) ?_
    refine TC.ret1 (fn := Try.f14) (fun _ _ h => h) rfl (RV.tmp rfl) (fun _ h => h) ?_
    exact ⟨rfl, rfl⟩
  · skip
    exact absurd (by decide) c1

/-- (*quorumite/adverse.World).Corrupt -/
theorem Corrupt_yes (b i j : Nat) (c : Cf) (A : Option Addr) (nl cl bb : Nat) (σ : Sl) (nk : Nat) (n : Int) (l : List Bool) (H : Hp) (hi : H[i]? = some (wob b c A nl cl bb l.length σ nk n)) (hj : H[j]? = some (bb, row 4 (l.map Value.bool))) (hl : l.length ≤ 1000) (hnl : nl = l.length) (k : Nat) (hk : k < nl) (x : Bool) (hx : l[k]? = some x) (hm : x = true ∨ ((bads l).length : Int) < c.f) : FnC Try.prog 14 #[.pointer (some ⟨b, 0, none⟩), .int .i64 (k : Nat)] H (fun v M' => v = .int .i64 0 ∧ M' = H.set j (bb, row 4 ((l.set k true).map Value.bool))) := by
  have hR := rd_rowA hj
  have hkl : k < l.length := by omega
  refine FnC.intro Try.func14 rfl 37 rfl (by simp) (fun z => ?_)
  refine TC.env (E' := [(0, _), (1, _)]) (Sub.cons rfl (Sub.cons rfl (Sub.nil _))) ?_
  refine TC.seq ?_
  refine TC.region ?_
  refine TL.val rfl rfl (Nat.le_of_ble_eq_true rfl) (Val.assign rfl) ?_
  refine TL.nil ?_
  refine AtX.then ?_
  refine TC.seq ?_
  refine TC.seq ?_
  refine TC.region ?_
  refine TL.val rfl rfl (Nat.le_of_ble_eq_true rfl) (Val.move rfl) ?_
  refine TL.val rfl rfl (Nat.le_of_ble_eq_true rfl) (Val.move rfl) ?_
  refine TL.does (some 8) rfl rfl rfl (Does.callF go46 rfl (has_ok b i c A nl cl bb l.length σ nk n _ hi k hk)) ?_
  rintro _ _ ⟨rfl, rfl⟩
  refine TL.val rfl rfl (Nat.le_of_ble_eq_true rfl) (Val.assign rfl) ?_
  refine TL.nil ?_
  refine AtX.then ?_
  refine TC.env (E' := [(0, _), (1, _), (4, _), (5, _)]) (Sub.cons rfl (Sub.cons rfl (Sub.cons rfl (Sub.cons rfl (Sub.nil _))))) ?_
  refine TC.seq ?_
  refine TC.region ?_
  refine TL.val rfl rfl (Nat.le_of_ble_eq_true rfl) (Val.move rfl) ?_
  refine TL.val rfl rfl (Nat.le_of_ble_eq_true rfl) (Val.neqI rfl rfl) ?_
  refine TL.nil ?_
  refine AtX.then ?_
  refine TC.env (E' := [(0, _), (1, _), (4, _), (5, _), (10, _)]) (Sub.cons rfl (Sub.cons rfl (Sub.cons rfl (Sub.cons rfl (Sub.cons rfl (Sub.nil _)))))) ?_
  first | refine TC.condP rfl (fun c1 => ?_) (fun c1 => ?_) | refine TC.condN rfl (fun c1 => ?_) (fun c1 => ?_) | refine TC.condB rfl (fun c1 => ?_) (fun c1 => ?_) | refine TC.cond rfl (fun c1 => ?_) (fun c1 => ?_)
  · skip
    exact absurd rfl c1
  · skip
    refine TC.env (E' := [(0, _), (1, _), (4, _)]) (Sub.cons rfl (Sub.cons rfl (Sub.cons rfl (Sub.nil _)))) ?_
    refine TC.skip ?_
    refine AtX.then ?_
    refine TC.env (E' := [(0, _), (1, _), (4, _)]) (Sub.cons rfl (Sub.cons rfl (Sub.cons rfl (Sub.nil _)))) ?_
    refine TC.seq ?_
    refine TC.seq ?_
    refine TC.drawLM mixed 19 ?_
    refine TA.tk 0 1 rfl rfl rfl (Val.move rfl) ?_
    refine TA.tk 1 3 rfl rfl rfl (Val.nilCheck rfl) ?_
    refine TA.tk 2 7 rfl rfl rfl (Val.fieldAddr rfl fl94_2 sz85 rfl) ?_
    refine TA.tk 3 15 rfl rfl rfl (Val.load i rfl ag85 hi rfl) ?_
    refine TA.tk 4 31 rfl rfl rfl (Val.move rfl) ?_
    refine TA.tk 5 63 rfl rfl rfl (Val.indexAddr (i := k) (r := k) rfl rfl sl85 sz4 rfl hkl (by omega)) ?_
    refine TA.tk 6 127 rfl rfl rfl (Val.loadRd (o := 0) (j := k) (v := .bool x) rfl ag4 hR (by omega) (map_get hx)) ?_
    refine TA.tk 7 255 rfl rfl rfl (Val.not rfl) ?_
    refine TA.tk 8 511 rfl rfl rfl (Val.move rfl) ?_
    refine TA.gen (fun g2 hg2 => ?_)
    refine TA.gtk 9 1023 rfl rfl rfl rfl rfl (fun hg => by subst hg; exact (Val.move rfl)) ?_
    refine TA.gtk 12 5119 rfl rfl rfl rfl rfl (fun hg => by subst hg; exact (Val.move rfl)) ?_
    refine TA.gtk 13 13311 rfl rfl rfl rfl rfl (fun hg => by subst hg; exact (Val.nilCheck rfl)) ?_
    refine TA.gtk 14 29695 rfl rfl rfl rfl rfl (fun hg => by subst hg; exact (Val.fieldAddr rfl fl94_0 sz26 rfl)) ?_
    refine TA.gtk 15 62463 rfl rfl rfl rfl rfl (fun hg => by subst hg; exact (Val.fieldAddr rfl fl26_1 sz3 rfl)) ?_
    refine TA.gtk 16 127999 rfl rfl rfl rfl rfl (fun hg => by subst hg; exact (Val.load i rfl ag3 hi rfl)) ?_
    cases g2 with
    | false =>
      refine TA.tkP 10 129023 rfl rfl rfl rfl rfl rfl ?_
      refine TA.tkP 11 131071 rfl rfl rfl rfl rfl rfl ?_
      refine TA.tkP 17 262143 rfl rfl rfl rfl rfl rfl ?_
      refine TA.tk 18 524287 rfl rfl rfl (Val.pick rfl rfl rfl) ?_
      refine TA.done (by kernel_rfl) ?_
      refine AtX.then ?_
      refine TC.env (E' := [(0, _), (1, _), (4, _), (30, _)]) (Sub.cons rfl (Sub.cons rfl (Sub.cons rfl (Sub.cons rfl (Sub.nil _))))) ?_
      first | refine TC.condP rfl (fun c2 => ?_) (fun c2 => ?_) | refine TC.condN rfl (fun c2 => ?_) (fun c2 => ?_) | refine TC.condB rfl (fun c2 => ?_) (fun c2 => ?_) | refine TC.cond rfl (fun c2 => ?_) (fun c2 => ?_)
      · skip
        (exfalso; grind)
      · skip
        refine TC.env (E' := [(0, _), (1, _), (4, _)]) (Sub.cons rfl (Sub.cons rfl (Sub.cons rfl (Sub.nil _)))) ?_
        refine TC.skip ?_
        refine AtX.then ?_
        refine TC.env (E' := [(0, _), (1, _), (4, _)]) (Sub.cons rfl (Sub.cons rfl (Sub.cons rfl (Sub.nil _)))) ?_
        refine TC.seq ?_
        refine TC.heap (M' := H) (by repeat (first | exact ro_refl | exact ro_pre | refine ro_tail ?_ | refine ro_app ?_)) ?_
        refine TC.region ?_
        refine TL.val rfl rfl (Nat.le_of_ble_eq_true rfl) (Val.move rfl) ?_
        refine TL.val rfl rfl (Nat.le_of_ble_eq_true rfl) (Val.nilCheck rfl) ?_
        refine TL.val rfl rfl (Nat.le_of_ble_eq_true rfl) (Val.fieldAddr rfl fl94_2 sz85 rfl) ?_
        refine TL.val rfl rfl (Nat.le_of_ble_eq_true rfl) (Val.load i rfl ag85 hi rfl) ?_
        refine TL.val rfl rfl (Nat.le_of_ble_eq_true rfl) (Val.move rfl) ?_
        refine TL.val rfl rfl (Nat.le_of_ble_eq_true rfl) (Val.indexAddr (i := k) (r := k) rfl rfl sl85 sz4 rfl hkl (by omega)) ?_
        refine TL.does none rfl rfl rfl (Does.storeR j rfl rfl hj sz4 rfl rfl (by simp; omega) (map_set1 (f := Value.bool) hkl true)) ?_
        rintro _ _ ⟨rfl, rfl⟩
        refine TL.nil ?_
        refine AtX.then ?_
        refine TC.env (E' := [(4, _)]) (Sub.cons rfl (Sub.nil _)) ?_
        refine TC.seq ?_
        refine TC.region ?_
        refine TL.val rfl rfl (Nat.le_of_ble_eq_true rfl) (Val.assign rfl) ?_
        refine TL.nil ?_
        refine AtX.then ?_
        refine TC.env (E' := [(4, _)]) (Sub.cons rfl (Sub.nil _)) ?_
        refine TC.ret1 (fn := Try.f14) (fun _ _ h => h) rfl (RV.tmp rfl) (fun _ h => h) ?_
        exact ⟨rfl, rfl⟩
    | true =>
      refine TA.one 10 (by kernel_rfl) ?_
      refine TO.dzY 129023 (some 22) rfl rfl rfl rfl rfl rfl (Does.callF go15 rfl (Bad_fn b i j c A nl cl bb σ nk n l _ hi hj hl)) ?_
      rintro _ _ ⟨τ, rfl, hok, rfl⟩
      refine roK ?_
      refine TA.tkY 11 131071 rfl rfl rfl rfl rfl (Val.lenSl rfl rfl sl22) ?_
      refine TA.tkY 17 262143 rfl rfl rfl rfl rfl (Val.geq rfl rfl) ?_
      refine TA.tk 18 524287 rfl rfl rfl (Val.pickAnd rfl rfl rfl) ?_
      refine TA.done (by kernel_rfl) ?_
      refine AtX.then ?_
      refine TC.env (E' := [(0, _), (1, _), (4, _), (30, _)]) (Sub.cons rfl (Sub.cons rfl (Sub.cons rfl (Sub.cons rfl (Sub.nil _))))) ?_
      first | refine TC.condP rfl (fun c3 => ?_) (fun c3 => ?_) | refine TC.condN rfl (fun c3 => ?_) (fun c3 => ?_) | refine TC.condB rfl (fun c3 => ?_) (fun c3 => ?_) | refine TC.cond rfl (fun c3 => ?_) (fun c3 => ?_)
      · skip
        (exfalso; grind)
      · skip
        refine TC.env (E' := [(0, _), (1, _), (4, _)]) (Sub.cons rfl (Sub.cons rfl (Sub.cons rfl (Sub.nil _)))) ?_
        refine TC.skip ?_
        refine AtX.then ?_
        refine TC.env (E' := [(0, _), (1, _), (4, _)]) (Sub.cons rfl (Sub.cons rfl (Sub.cons rfl (Sub.nil _)))) ?_
        refine TC.seq ?_
        refine TC.heap (M' := H) (by repeat (first | exact ro_refl | exact ro_pre | refine ro_tail ?_ | refine ro_app ?_)) ?_
        refine TC.region ?_
        refine TL.val rfl rfl (Nat.le_of_ble_eq_true rfl) (Val.move rfl) ?_
        refine TL.val rfl rfl (Nat.le_of_ble_eq_true rfl) (Val.nilCheck rfl) ?_
        refine TL.val rfl rfl (Nat.le_of_ble_eq_true rfl) (Val.fieldAddr rfl fl94_2 sz85 rfl) ?_
        refine TL.val rfl rfl (Nat.le_of_ble_eq_true rfl) (Val.load i rfl ag85 hi rfl) ?_
        refine TL.val rfl rfl (Nat.le_of_ble_eq_true rfl) (Val.move rfl) ?_
        refine TL.val rfl rfl (Nat.le_of_ble_eq_true rfl) (Val.indexAddr (i := k) (r := k) rfl rfl sl85 sz4 rfl hkl (by omega)) ?_
        refine TL.does none rfl rfl rfl (Does.storeR j rfl rfl hj sz4 rfl rfl (by simp; omega) (map_set1 (f := Value.bool) hkl true)) ?_
        rintro _ _ ⟨rfl, rfl⟩
        refine TL.nil ?_
        refine AtX.then ?_
        refine TC.env (E' := [(4, _)]) (Sub.cons rfl (Sub.nil _)) ?_
        refine TC.seq ?_
        refine TC.region ?_
        refine TL.val rfl rfl (Nat.le_of_ble_eq_true rfl) (Val.assign rfl) ?_
        refine TL.nil ?_
        refine AtX.then ?_
        refine TC.env (E' := [(4, _)]) (Sub.cons rfl (Sub.nil _)) ?_
        refine TC.ret1 (fn := Try.f14) (fun _ _ h => h) rfl (RV.tmp rfl) (fun _ h => h) ?_
        exact ⟨rfl, rfl⟩

/-- (*quorumite/adverse.World).Corrupt -/
theorem Corrupt_full (b i j : Nat) (c : Cf) (A : Option Addr) (nl cl bb : Nat) (σ : Sl) (nk : Nat) (n : Int) (l : List Bool) (H : Hp) (hi : H[i]? = some (wob b c A nl cl bb l.length σ nk n)) (hj : H[j]? = some (bb, row 4 (l.map Value.bool))) (hl : l.length ≤ 1000) (hnl : nl = l.length) (k : Nat) (hk : k < nl) (hx : l[k]? = some false) (hm : c.f ≤ ((bads l).length : Int)) : FnC Try.prog 14 #[.pointer (some ⟨b, 0, none⟩), .int .i64 (k : Nat)] H (fun v M' => v = .int .i64 9 ∧ H = M') := by
  have hR := rd_rowA hj
  have hkl : k < l.length := by omega
  refine FnC.intro Try.func14 rfl 37 rfl (by simp) (fun z => ?_)
  refine TC.env (E' := [(0, _), (1, _)]) (Sub.cons rfl (Sub.cons rfl (Sub.nil _))) ?_
  refine TC.seq ?_
  refine TC.region ?_
  refine TL.val rfl rfl (Nat.le_of_ble_eq_true rfl) (Val.assign rfl) ?_
  refine TL.nil ?_
  refine AtX.then ?_
  refine TC.seq ?_
  refine TC.seq ?_
  refine TC.region ?_
  refine TL.val rfl rfl (Nat.le_of_ble_eq_true rfl) (Val.move rfl) ?_
  refine TL.val rfl rfl (Nat.le_of_ble_eq_true rfl) (Val.move rfl) ?_
  refine TL.does (some 8) rfl rfl rfl (Does.callF go46 rfl (has_ok b i c A nl cl bb l.length σ nk n _ hi k hk)) ?_
  rintro _ _ ⟨rfl, rfl⟩
  refine TL.val rfl rfl (Nat.le_of_ble_eq_true rfl) (Val.assign rfl) ?_
  refine TL.nil ?_
  refine AtX.then ?_
  refine TC.env (E' := [(0, _), (1, _), (4, _), (5, _)]) (Sub.cons rfl (Sub.cons rfl (Sub.cons rfl (Sub.cons rfl (Sub.nil _))))) ?_
  refine TC.seq ?_
  refine TC.region ?_
  refine TL.val rfl rfl (Nat.le_of_ble_eq_true rfl) (Val.move rfl) ?_
  refine TL.val rfl rfl (Nat.le_of_ble_eq_true rfl) (Val.neqI rfl rfl) ?_
  refine TL.nil ?_
  refine AtX.then ?_
  refine TC.env (E' := [(0, _), (1, _), (4, _), (5, _), (10, _)]) (Sub.cons rfl (Sub.cons rfl (Sub.cons rfl (Sub.cons rfl (Sub.cons rfl (Sub.nil _)))))) ?_
  first | refine TC.condP rfl (fun c1 => ?_) (fun c1 => ?_) | refine TC.condN rfl (fun c1 => ?_) (fun c1 => ?_) | refine TC.condB rfl (fun c1 => ?_) (fun c1 => ?_) | refine TC.cond rfl (fun c1 => ?_) (fun c1 => ?_)
  · skip
    exact absurd rfl c1
  · skip
    refine TC.env (E' := [(0, _), (1, _), (4, _)]) (Sub.cons rfl (Sub.cons rfl (Sub.cons rfl (Sub.nil _)))) ?_
    refine TC.skip ?_
    refine AtX.then ?_
    refine TC.env (E' := [(0, _), (1, _), (4, _)]) (Sub.cons rfl (Sub.cons rfl (Sub.cons rfl (Sub.nil _)))) ?_
    refine TC.seq ?_
    refine TC.seq ?_
    refine TC.drawLM mixed 19 ?_
    refine TA.tk 0 1 rfl rfl rfl (Val.move rfl) ?_
    refine TA.tk 1 3 rfl rfl rfl (Val.nilCheck rfl) ?_
    refine TA.tk 2 7 rfl rfl rfl (Val.fieldAddr rfl fl94_2 sz85 rfl) ?_
    refine TA.tk 3 15 rfl rfl rfl (Val.load i rfl ag85 hi rfl) ?_
    refine TA.tk 4 31 rfl rfl rfl (Val.move rfl) ?_
    refine TA.tk 5 63 rfl rfl rfl (Val.indexAddr (i := k) (r := k) rfl rfl sl85 sz4 rfl hkl (by omega)) ?_
    refine TA.tk 6 127 rfl rfl rfl (Val.loadRd (o := 0) (j := k) (v := .bool false) rfl ag4 hR (by omega) (map_get hx)) ?_
    refine TA.tk 7 255 rfl rfl rfl (Val.not rfl) ?_
    refine TA.tk 8 511 rfl rfl rfl (Val.move rfl) ?_
    refine TA.gen (fun g2 hg2 => ?_)
    refine TA.gtk 9 1023 rfl rfl rfl rfl rfl (fun hg => by subst hg; exact (Val.move rfl)) ?_
    refine TA.gtk 12 5119 rfl rfl rfl rfl rfl (fun hg => by subst hg; exact (Val.move rfl)) ?_
    refine TA.gtk 13 13311 rfl rfl rfl rfl rfl (fun hg => by subst hg; exact (Val.nilCheck rfl)) ?_
    refine TA.gtk 14 29695 rfl rfl rfl rfl rfl (fun hg => by subst hg; exact (Val.fieldAddr rfl fl94_0 sz26 rfl)) ?_
    refine TA.gtk 15 62463 rfl rfl rfl rfl rfl (fun hg => by subst hg; exact (Val.fieldAddr rfl fl26_1 sz3 rfl)) ?_
    refine TA.gtk 16 127999 rfl rfl rfl rfl rfl (fun hg => by subst hg; exact (Val.load i rfl ag3 hi rfl)) ?_
    cases g2 with
    | false =>
      refine TA.tkP 10 129023 rfl rfl rfl rfl rfl rfl ?_
      refine TA.tkP 11 131071 rfl rfl rfl rfl rfl rfl ?_
      refine TA.tkP 17 262143 rfl rfl rfl rfl rfl rfl ?_
      refine TA.tk 18 524287 rfl rfl rfl (Val.pick rfl rfl rfl) ?_
      refine TA.done (by kernel_rfl) ?_
      refine AtX.then ?_
      refine TC.env (E' := [(0, _), (1, _), (4, _), (30, _)]) (Sub.cons rfl (Sub.cons rfl (Sub.cons rfl (Sub.cons rfl (Sub.nil _))))) ?_
      first | refine TC.condP rfl (fun c2 => ?_) (fun c2 => ?_) | refine TC.condN rfl (fun c2 => ?_) (fun c2 => ?_) | refine TC.condB rfl (fun c2 => ?_) (fun c2 => ?_) | refine TC.cond rfl (fun c2 => ?_) (fun c2 => ?_)
      · skip
        refine TC.env (E' := [(0, _), (1, _), (4, _)]) (Sub.cons rfl (Sub.cons rfl (Sub.cons rfl (Sub.nil _)))) ?_
        refine TC.seq ?_
        refine TC.region ?_
        refine TL.val rfl rfl (Nat.le_of_ble_eq_true rfl) (Val.assign rfl) ?_
        refine TL.nil ?_
        refine AtX.then ?_
        refine TC.env (E' := [(0, _), (1, _), (4, _)]) (Sub.cons rfl (Sub.cons rfl (Sub.cons rfl (Sub.nil _)))) ?_
        refine TC.ret1 (fn := Try.f14) (fun _ _ h => h) rfl (RV.tmp rfl) (M' := H) (by repeat (first | exact ro_refl | exact ro_pre | refine ro_tail ?_ | refine ro_app ?_)) ?_
        exact ⟨rfl, rfl⟩
      · skip
        (exfalso; grind)
    | true =>
      refine TA.one 10 (by kernel_rfl) ?_
      refine TO.dzY 129023 (some 22) rfl rfl rfl rfl rfl rfl (Does.callF go15 rfl (Bad_fn b i j c A nl cl bb σ nk n l _ hi hj hl)) ?_
      rintro _ _ ⟨τ, rfl, hok, rfl⟩
      refine roK ?_
      refine TA.tkY 11 131071 rfl rfl rfl rfl rfl (Val.lenSl rfl rfl sl22) ?_
      refine TA.tkY 17 262143 rfl rfl rfl rfl rfl (Val.geq rfl rfl) ?_
      refine TA.tk 18 524287 rfl rfl rfl (Val.pickAnd rfl rfl rfl) ?_
      refine TA.done (by kernel_rfl) ?_
      refine AtX.then ?_
      refine TC.env (E' := [(0, _), (1, _), (4, _), (30, _)]) (Sub.cons rfl (Sub.cons rfl (Sub.cons rfl (Sub.cons rfl (Sub.nil _))))) ?_
      first | refine TC.condP rfl (fun c3 => ?_) (fun c3 => ?_) | refine TC.condN rfl (fun c3 => ?_) (fun c3 => ?_) | refine TC.condB rfl (fun c3 => ?_) (fun c3 => ?_) | refine TC.cond rfl (fun c3 => ?_) (fun c3 => ?_)
      · skip
        refine TC.env (E' := [(0, _), (1, _), (4, _)]) (Sub.cons rfl (Sub.cons rfl (Sub.cons rfl (Sub.nil _)))) ?_
        refine TC.seq ?_
        refine TC.region ?_
        refine TL.val rfl rfl (Nat.le_of_ble_eq_true rfl) (Val.assign rfl) ?_
        refine TL.nil ?_
        refine AtX.then ?_
        refine TC.env (E' := [(0, _), (1, _), (4, _)]) (Sub.cons rfl (Sub.cons rfl (Sub.cons rfl (Sub.nil _)))) ?_
        refine TC.ret1 (fn := Try.f14) (fun _ _ h => h) rfl (RV.tmp rfl) (M' := H) (by repeat (first | exact ro_refl | exact ro_pre | refine ro_tail ?_ | refine ro_app ?_)) ?_
        exact ⟨rfl, rfl⟩
      · skip
        (exfalso; grind)

end Go.Proofs.Ytphoapajlcaoeaa
/- walks -/
set_option linter.unusedVariables false
set_option linter.unusedSimpArgs false
set_option maxRecDepth 100000
set_option maxHeartbeats 4000000
namespace Go.Proofs.Ytphoapajlcaoeaa
open Go Go.X
def cntTo (l : List Bool) (k : Nat) : Nat → Nat
  | 0 => 0
  | i + 1 => cntTo l k i + (if l.getD i false = true ∧ i ≠ k then 1 else 0)
theorem cntTo_le (l : List Bool) (k : Nat) : ∀ i, cntTo l k i ≤ i
  | 0 => Nat.le_refl _
  | i + 1 => by have := cntTo_le l k i; rw [cntTo]; split <;> omega
theorem cntTo_t {l : List Bool} {k i : Nat} {x : Bool} (hx : l[i]? = some x) (h : x = true ∧ ¬ ((i : Nat) : Int) = ((k : Nat) : Int)) : cntTo l k (i + 1) = cntTo l k i + 1 := by
  rw [cntTo, if_pos ⟨by rw [List.getD_eq_getElem?_getD, hx]; exact h.1, by have := h.2; omega⟩]
theorem cntTo_f {l : List Bool} {k i : Nat} {x : Bool} (hx : l[i]? = some x) (h : x = true → ((i : Nat) : Int) = ((k : Nat) : Int)) : cntTo l k (i + 1) = cntTo l k i := by
  rw [cntTo, if_neg (fun h2 => by
    rw [List.getD_eq_getElem?_getD, hx] at h2
    have := h h2.1
    have := h2.2
    omega), Nat.add_zero]
/-- (*quorumite/quorumiteref22.World).Corrupt -/
theorem rCorrupt_no (b i : Nat) (c : Cf) (A : Option Addr) (nl cl bb : Nat) (σ : Sl) (nk N : Nat) (H : Hp) (hi : H[i]? = some (rwo b c A nl cl bb N σ nk)) (hN : c.n = (N : Nat)) (k : Int) (hk : k < 0 ∨ (N : Int) ≤ k)  : FnC Try.prog 22 #[.pointer (some ⟨b, 0, none⟩), .int .i64 k] H (fun v M' => v = .int .i64 3 ∧ H = M') := by
  refine FnC.intro Try.func22 rfl 54 rfl (by simp) (fun z => ?_)
  refine TC.env (E' := [(0, _), (1, _)]) (Sub.cons rfl (Sub.cons rfl (Sub.nil _))) ?_
  refine TC.sr ?_
  refine TL.v (Val.assign rfl) ?_
  refine TL.nt ?_
  refine TC.seq ?_
  refine TC.sr ?_
  refine TL.v (Val.move rfl) ?_
  refine TL.v (Val.lss rfl rfl) ?_
  refine TL.v (Val.move rfl) ?_
  refine TL.gen (fun g1 hg1 => ?_)
  refine TL.gv rfl rfl rfl (fun hg => by subst hg; exact (Val.move rfl)) ?_
  refine TL.gv rfl rfl rfl (fun hg => by subst hg; exact (Val.move rfl)) ?_
  refine TL.gv rfl rfl rfl (fun hg => by subst hg; exact (Val.nilCheck rfl)) ?_
  refine TL.gv rfl rfl rfl (fun hg => by subst hg; exact (Val.fieldAddr rfl fl105_0 sz26 rfl)) ?_
  refine TL.gv rfl rfl rfl (fun hg => by subst hg; exact (Val.fieldAddr rfl fl26_0 sz3 rfl)) ?_
  refine TL.gv rfl rfl rfl (fun hg => by subst hg; exact (Val.load i rfl ag3 hi rfl)) ?_
  refine TL.gv rfl rfl rfl (fun hg => by subst hg; exact (Val.geq rfl rfl)) ?_
  refine TL.v (Val.pickOr rfl rfl rfl) ?_
  refine TL.nt ?_
  refine TC.en (E' := [(0, _), (1, _), (4, _), (17, _)]) ?_
  refine TC.cond rfl (fun c1 => ?_) (fun c1 => ?_)
  · skip
    refine TC.sr ?_
    refine TL.v (Val.assign rfl) ?_
    refine TL.nt ?_
    refine TC.r1 (M' := H) (fn := Try.f22) (fun _ _ h => h) rfl (RV.tmp rfl) ?_
    exact ⟨rfl, rfl⟩
  · skip
    (exfalso; grind)

/-- (*quorumite/quorumiteref22.World).Corrupt -/
theorem rCorrupt_yes (b i j : Nat) (c : Cf) (A : Option Addr) (nl cl bb : Nat) (σ : Sl) (nk : Nat) (l : List Bool) (H : Hp) (hi : H[i]? = some (rwo b c A nl cl bb l.length σ nk)) (hj : H[j]? = some (bb, row 4 (l.map Value.bool))) (hN : c.n = (l.length : Nat)) (hl : l.length ≤ 100) (k : Nat) (hk : k < l.length) (hm : (cntTo l k l.length : Int) < c.f) : FnC Try.prog 22 #[.pointer (some ⟨b, 0, none⟩), .int .i64 (k : Nat)] H (fun v M' => v = .int .i64 0 ∧ M' = H.set j (bb, row 4 ((l.set k true).map Value.bool))) := by
  have hR := rd_rowA hj
  refine FnC.intro Try.func22 rfl 54 rfl (by simp) (fun z => ?_)
  refine TC.env (E' := [(0, _), (1, _)]) (Sub.cons rfl (Sub.cons rfl (Sub.nil _))) ?_
  refine TC.sr ?_
  refine TL.v (Val.assign rfl) ?_
  refine TL.nt ?_
  refine TC.seq ?_
  refine TC.sr ?_
  refine TL.v (Val.move rfl) ?_
  refine TL.v (Val.lss rfl rfl) ?_
  refine TL.v (Val.move rfl) ?_
  refine TL.gen (fun g1 hg1 => ?_)
  refine TL.gv rfl rfl rfl (fun hg => by subst hg; exact (Val.move rfl)) ?_
  refine TL.gv rfl rfl rfl (fun hg => by subst hg; exact (Val.move rfl)) ?_
  refine TL.gv rfl rfl rfl (fun hg => by subst hg; exact (Val.nilCheck rfl)) ?_
  refine TL.gv rfl rfl rfl (fun hg => by subst hg; exact (Val.fieldAddr rfl fl105_0 sz26 rfl)) ?_
  refine TL.gv rfl rfl rfl (fun hg => by subst hg; exact (Val.fieldAddr rfl fl26_0 sz3 rfl)) ?_
  refine TL.gv rfl rfl rfl (fun hg => by subst hg; exact (Val.load i rfl ag3 hi rfl)) ?_
  refine TL.gv rfl rfl rfl (fun hg => by subst hg; exact (Val.geq rfl rfl)) ?_
  refine TL.v (Val.pickOr rfl rfl rfl) ?_
  refine TL.nt ?_
  refine TC.en (E' := [(0, _), (1, _), (4, _), (17, _)]) ?_
  refine TC.cond rfl (fun c1 => ?_) (fun c1 => ?_)
  · skip
    (exfalso; grind)
  · skip
    refine TC.skip ?_
    refine AtX.then ?_
    refine TC.sr ?_
    refine TL.v (Val.assign rfl) ?_
    refine TL.nt ?_
    refine TC.seq ?_
    refine TC.sr ?_
    refine TL.v (Val.assign rfl) ?_
    refine TL.nt ?_
    refine TC.block ?_
    refine TC.loop (ι := Nat) (fun w => [(0, .pointer (some ⟨b, 0, none⟩)), (1, .int .i64 (k : Nat)), (5, .int .i64 (cntTo l k w : Nat)), (6, .int .i64 (w : Nat))]) (fun _ => H) (fun w => w ≤ l.length) (fun w => l.length - w) 0 ?_ (Sub.cons rfl (Sub.cons rfl (Sub.cons rfl (Sub.cons rfl (Sub.nil _))))) (fun _ h => h) ?_
    · exact Nat.zero_le _
    intro w hw
    refine TC.seq ?_
    refine TC.sr ?_
    refine TL.v (Val.move rfl) ?_
    refine TL.v (Val.move rfl) ?_
    refine TL.v (Val.nilCheck rfl) ?_
    refine TL.v (Val.fieldAddr rfl fl105_0 sz26 rfl) ?_
    refine TL.v (Val.fieldAddr rfl fl26_0 sz3 rfl) ?_
    refine TL.v (Val.load i rfl ag3 hi rfl) ?_
    refine TL.v (Val.lss rfl rfl) ?_
    refine TL.nt ?_
    refine TC.condP rfl (fun c2 => ?_) (fun c2 => ?_)
    · skip
      refine TC.skip ?_
      refine AtX.then ?_
      refine TC.seq ?_
      refine TC.block ?_
      refine TC.seq ?_
      have hwl : w < l.length := by omega
      obtain ⟨y, hy⟩ : ∃ y, l[w]? = some y := ⟨_, List.getElem?_eq_getElem hwl⟩
      have hcle := cntTo_le l k w
      refine TC.region ?_
      refine TL.v (Val.move rfl) ?_
      refine TL.v (Val.nilCheck rfl) ?_
      refine TL.v (Val.fieldAddr rfl fl105_2 sz85 rfl) ?_
      refine TL.v (Val.load i rfl ag85 hi rfl) ?_
      refine TL.v (Val.move rfl) ?_
      refine TL.v (Val.indexAddr (i := w) (r := w) rfl rfl sl85 sz4 rfl hwl (by omega)) ?_
      refine TL.v (Val.loadRd (o := 0) (j := w) (v := .bool y) rfl ag4 hR (by omega) (map_get hy)) ?_
      refine TL.v (Val.move rfl) ?_
      refine TL.gen (fun g2 hg2 => ?_)
      refine TL.gv rfl rfl rfl (fun hg => by subst hg; exact (Val.move rfl)) ?_
      refine TL.gv rfl rfl rfl (fun hg => by subst hg; exact (Val.move rfl)) ?_
      refine TL.gv rfl rfl rfl (fun hg => by subst hg; exact (Val.neqI rfl rfl)) ?_
      refine TL.v (Val.pickAnd rfl rfl rfl) ?_
      refine TL.nt ?_
      refine TC.cond rfl (fun c3 => ?_) (fun c3 => ?_)
      · skip
        refine TC.region ?_
        refine TL.v (Val.move rfl) ?_
        refine TL.v (Val.add rfl rfl (r := ((cntTo l k (w + 1) : Nat) : Int)) (by rw [cntTo_t hy (by simp_all), w_i64 (by omega) (by omega)]; push_cast; rfl)) ?_
        refine TL.v (Val.assign rfl) ?_
        refine TL.nil ?_
        refine AtX.blk ?_
        refine AtX.then ?_
        refine TC.region ?_
        refine TL.v (Val.move rfl) ?_
        refine TL.v (Val.add rfl rfl (w_i64 (by omega) (by omega))) ?_
        refine TL.v (Val.assign rfl) ?_
        refine TL.nil ?_
        refine AtX.round (w + 1) ?_ ?_ (Sub.cons rfl (Sub.cons rfl (Sub.cons rfl (Sub.cons rfl (Sub.nil _))))) (fun _ h => h)
        · omega
        · omega
      · skip
        refine TC.skip ?_
        refine AtX.blk ?_
        refine AtX.then ?_
        refine TC.region ?_
        refine TL.v (Val.move rfl) ?_
        refine TL.v (Val.add rfl rfl (w_i64 (by omega) (by omega))) ?_
        refine TL.v (Val.assign rfl) ?_
        refine TL.nil ?_
        refine AtX.round (w + 1) ?_ ?_ (Sub.cons rfl (Sub.cons rfl (Sub.cons (by rw [cntTo_f hy (by simp_all)]; rfl) (Sub.cons rfl (Sub.nil _))))) (fun _ h => h)
        · omega
        · omega
    · skip
      refine TC.exit ?_
      refine AtX.seqX ?_
      refine AtX.seqX ?_
      refine AtX.hit ?_
      refine AtX.then ?_
      refine TC.en (E' := [(0, _), (1, _), (5, _)]) ?_
      refine TC.seq ?_
      refine TC.seq ?_
      have hwe : w = l.length := by omega
      subst hwe
      refine TC.region ?_
      refine TL.v (Val.move rfl) ?_
      refine TL.v (Val.move rfl) ?_
      refine TL.v (Val.nilCheck rfl) ?_
      refine TL.v (Val.fieldAddr rfl fl105_0 sz26 rfl) ?_
      refine TL.v (Val.fieldAddr rfl fl26_1 sz3 rfl) ?_
      refine TL.v (Val.load i rfl ag3 hi rfl) ?_
      refine TL.v (Val.geq rfl rfl) ?_
      refine TL.nt ?_
      refine TC.condP rfl (fun c4 => ?_) (fun c4 => ?_)
      · skip
        (exfalso; omega)
      · skip
        refine TC.en (E' := [(0, _), (1, _)]) ?_
        refine TC.skip ?_
        refine AtX.then ?_
        refine TC.sr ?_
        refine TL.v (Val.move rfl) ?_
        refine TL.v (Val.nilCheck rfl) ?_
        refine TL.v (Val.fieldAddr rfl fl105_2 sz85 rfl) ?_
        refine TL.v (Val.load i rfl ag85 hi rfl) ?_
        refine TL.v (Val.move rfl) ?_
        refine TL.v (Val.indexAddr (i := k) (r := k) rfl rfl sl85 sz4 rfl hk (by omega)) ?_
        refine TL.d (Does.storeR j rfl rfl hj sz4 rfl rfl (by simp; omega) (map_set1 (f := Value.bool) hk true)) ?_
        rintro _ _ ⟨rfl, rfl⟩
        refine TL.nt ?_
        refine TC.en (E' := []) ?_
        refine TC.sr ?_
        refine TL.v (Val.assign rfl) ?_
        refine TL.nt ?_
        refine TC.r1 (hM := (fun _ h => h)) (fn := Try.f22) (fun _ _ h => h) rfl (RV.tmp rfl) ?_
        exact ⟨rfl, rfl⟩

/-- (*quorumite/quorumiteref22.World).Corrupt -/
theorem rCorrupt_full (b i j : Nat) (c : Cf) (A : Option Addr) (nl cl bb : Nat) (σ : Sl) (nk : Nat) (l : List Bool) (H : Hp) (hi : H[i]? = some (rwo b c A nl cl bb l.length σ nk)) (hj : H[j]? = some (bb, row 4 (l.map Value.bool))) (hN : c.n = (l.length : Nat)) (hl : l.length ≤ 100) (k : Nat) (hk : k < l.length) (hm : c.f ≤ (cntTo l k l.length : Int)) : FnC Try.prog 22 #[.pointer (some ⟨b, 0, none⟩), .int .i64 (k : Nat)] H (fun v M' => v = .int .i64 9 ∧ H = M') := by
  have hR := rd_rowA hj
  refine FnC.intro Try.func22 rfl 54 rfl (by simp) (fun z => ?_)
  refine TC.env (E' := [(0, _), (1, _)]) (Sub.cons rfl (Sub.cons rfl (Sub.nil _))) ?_
  refine TC.sr ?_
  refine TL.v (Val.assign rfl) ?_
  refine TL.nt ?_
  refine TC.seq ?_
  refine TC.sr ?_
  refine TL.v (Val.move rfl) ?_
  refine TL.v (Val.lss rfl rfl) ?_
  refine TL.v (Val.move rfl) ?_
  refine TL.gen (fun g1 hg1 => ?_)
  refine TL.gv rfl rfl rfl (fun hg => by subst hg; exact (Val.move rfl)) ?_
  refine TL.gv rfl rfl rfl (fun hg => by subst hg; exact (Val.move rfl)) ?_
  refine TL.gv rfl rfl rfl (fun hg => by subst hg; exact (Val.nilCheck rfl)) ?_
  refine TL.gv rfl rfl rfl (fun hg => by subst hg; exact (Val.fieldAddr rfl fl105_0 sz26 rfl)) ?_
  refine TL.gv rfl rfl rfl (fun hg => by subst hg; exact (Val.fieldAddr rfl fl26_0 sz3 rfl)) ?_
  refine TL.gv rfl rfl rfl (fun hg => by subst hg; exact (Val.load i rfl ag3 hi rfl)) ?_
  refine TL.gv rfl rfl rfl (fun hg => by subst hg; exact (Val.geq rfl rfl)) ?_
  refine TL.v (Val.pickOr rfl rfl rfl) ?_
  refine TL.nt ?_
  refine TC.en (E' := [(0, _), (1, _), (4, _), (17, _)]) ?_
  refine TC.cond rfl (fun c1 => ?_) (fun c1 => ?_)
  · skip
    (exfalso; grind)
  · skip
    refine TC.skip ?_
    refine AtX.then ?_
    refine TC.sr ?_
    refine TL.v (Val.assign rfl) ?_
    refine TL.nt ?_
    refine TC.seq ?_
    refine TC.sr ?_
    refine TL.v (Val.assign rfl) ?_
    refine TL.nt ?_
    refine TC.block ?_
    refine TC.loop (ι := Nat) (fun w => [(0, .pointer (some ⟨b, 0, none⟩)), (1, .int .i64 (k : Nat)), (5, .int .i64 (cntTo l k w : Nat)), (6, .int .i64 (w : Nat))]) (fun _ => H) (fun w => w ≤ l.length) (fun w => l.length - w) 0 ?_ (Sub.cons rfl (Sub.cons rfl (Sub.cons rfl (Sub.cons rfl (Sub.nil _))))) (fun _ h => h) ?_
    · exact Nat.zero_le _
    intro w hw
    refine TC.seq ?_
    refine TC.sr ?_
    refine TL.v (Val.move rfl) ?_
    refine TL.v (Val.move rfl) ?_
    refine TL.v (Val.nilCheck rfl) ?_
    refine TL.v (Val.fieldAddr rfl fl105_0 sz26 rfl) ?_
    refine TL.v (Val.fieldAddr rfl fl26_0 sz3 rfl) ?_
    refine TL.v (Val.load i rfl ag3 hi rfl) ?_
    refine TL.v (Val.lss rfl rfl) ?_
    refine TL.nt ?_
    refine TC.condP rfl (fun c2 => ?_) (fun c2 => ?_)
    · skip
      refine TC.skip ?_
      refine AtX.then ?_
      refine TC.seq ?_
      refine TC.block ?_
      refine TC.seq ?_
      have hwl : w < l.length := by omega
      obtain ⟨y, hy⟩ : ∃ y, l[w]? = some y := ⟨_, List.getElem?_eq_getElem hwl⟩
      have hcle := cntTo_le l k w
      refine TC.region ?_
      refine TL.v (Val.move rfl) ?_
      refine TL.v (Val.nilCheck rfl) ?_
      refine TL.v (Val.fieldAddr rfl fl105_2 sz85 rfl) ?_
      refine TL.v (Val.load i rfl ag85 hi rfl) ?_
      refine TL.v (Val.move rfl) ?_
      refine TL.v (Val.indexAddr (i := w) (r := w) rfl rfl sl85 sz4 rfl hwl (by omega)) ?_
      refine TL.v (Val.loadRd (o := 0) (j := w) (v := .bool y) rfl ag4 hR (by omega) (map_get hy)) ?_
      refine TL.v (Val.move rfl) ?_
      refine TL.gen (fun g2 hg2 => ?_)
      refine TL.gv rfl rfl rfl (fun hg => by subst hg; exact (Val.move rfl)) ?_
      refine TL.gv rfl rfl rfl (fun hg => by subst hg; exact (Val.move rfl)) ?_
      refine TL.gv rfl rfl rfl (fun hg => by subst hg; exact (Val.neqI rfl rfl)) ?_
      refine TL.v (Val.pickAnd rfl rfl rfl) ?_
      refine TL.nt ?_
      refine TC.cond rfl (fun c3 => ?_) (fun c3 => ?_)
      · skip
        refine TC.region ?_
        refine TL.v (Val.move rfl) ?_
        refine TL.v (Val.add rfl rfl (r := ((cntTo l k (w + 1) : Nat) : Int)) (by rw [cntTo_t hy (by simp_all), w_i64 (by omega) (by omega)]; push_cast; rfl)) ?_
        refine TL.v (Val.assign rfl) ?_
        refine TL.nil ?_
        refine AtX.blk ?_
        refine AtX.then ?_
        refine TC.region ?_
        refine TL.v (Val.move rfl) ?_
        refine TL.v (Val.add rfl rfl (w_i64 (by omega) (by omega))) ?_
        refine TL.v (Val.assign rfl) ?_
        refine TL.nil ?_
        refine AtX.round (w + 1) ?_ ?_ (Sub.cons rfl (Sub.cons rfl (Sub.cons rfl (Sub.cons rfl (Sub.nil _))))) (fun _ h => h)
        · omega
        · omega
      · skip
        refine TC.skip ?_
        refine AtX.blk ?_
        refine AtX.then ?_
        refine TC.region ?_
        refine TL.v (Val.move rfl) ?_
        refine TL.v (Val.add rfl rfl (w_i64 (by omega) (by omega))) ?_
        refine TL.v (Val.assign rfl) ?_
        refine TL.nil ?_
        refine AtX.round (w + 1) ?_ ?_ (Sub.cons rfl (Sub.cons rfl (Sub.cons (by rw [cntTo_f hy (by simp_all)]; rfl) (Sub.cons rfl (Sub.nil _))))) (fun _ h => h)
        · omega
        · omega
    · skip
      refine TC.exit ?_
      refine AtX.seqX ?_
      refine AtX.seqX ?_
      refine AtX.hit ?_
      refine AtX.then ?_
      refine TC.en (E' := [(0, _), (1, _), (5, _)]) ?_
      refine TC.seq ?_
      refine TC.seq ?_
      have hwe : w = l.length := by omega
      subst hwe
      refine TC.region ?_
      refine TL.v (Val.move rfl) ?_
      refine TL.v (Val.move rfl) ?_
      refine TL.v (Val.nilCheck rfl) ?_
      refine TL.v (Val.fieldAddr rfl fl105_0 sz26 rfl) ?_
      refine TL.v (Val.fieldAddr rfl fl26_1 sz3 rfl) ?_
      refine TL.v (Val.load i rfl ag3 hi rfl) ?_
      refine TL.v (Val.geq rfl rfl) ?_
      refine TL.nt ?_
      refine TC.condP rfl (fun c4 => ?_) (fun c4 => ?_)
      · skip
        refine TC.en (E' := [(0, _), (1, _)]) ?_
        refine TC.sr ?_
        refine TL.v (Val.assign rfl) ?_
        refine TL.nt ?_
        refine TC.r1 (M' := H) (fn := Try.f22) (fun _ _ h => h) rfl (RV.tmp rfl) ?_
        exact ⟨rfl, rfl⟩
      · skip
        (exfalso; omega)

/-- (*quorumite/quorumiteref22.World).Bad -/
theorem rBad_fn (b i j : Nat) (c : Cf) (A : Option Addr) (nl cl bb : Nat) (σ : Sl) (nk : Nat) (l : List Bool) (H : Hp) (hi : H[i]? = some (rwo b c A nl cl bb l.length σ nk)) (hj : H[j]? = some (bb, row 4 (l.map Value.bool))) (hN : c.n = (l.length : Nat)) (hl : l.length ≤ 100)  : FnC Try.prog 26 #[.pointer (some ⟨b, 0, none⟩)] H (fun v M' => ∃ τ, v = .slice (slA τ) (bads l).length (slC τ) ∧ slOk τ 1 (bads l).length ((bads l).map (Value.int .i64)) ∧ M' = slH τ 3 ((bads l).map (Value.int .i64)) ++ H) := by
  have hR := rd_rowA hj
  have hmi := List.mem_of_getElem? hi
  refine FnC.intro Try.func26 rfl 26 rfl (by simp) (fun z => ?_)
  refine TC.env (E' := [(0, _)]) (Sub.cons rfl (Sub.nil _)) ?_
  refine TC.sr ?_
  refine TL.v (Val.assign rfl) ?_
  refine TL.nt ?_
  refine TC.sr ?_
  refine TL.v (Val.assign rfl) ?_
  refine TL.nt ?_
  refine TC.seq ?_
  refine TC.sr ?_
  refine TL.v (Val.assign rfl) ?_
  refine TL.nt ?_
  refine TC.block ?_
  refine TC.loop (ι := (Nat × Sl)) (fun i => [(0, .pointer (some ⟨b, 0, none⟩)), (3, .slice (slA i.2) (badTo l i.1).length (slC i.2)), (4, .int .i64 (i.1 : Nat))]) (fun i => slH i.2 3 ((badTo l i.1).map (Value.int .i64)) ++ H) (fun i => i.1 ≤ l.length ∧ slOk i.2 1 (badTo l i.1).length ((badTo l i.1).map (Value.int .i64))) (fun i => l.length - i.1) (0, none) ?_ (Sub.cons rfl (Sub.cons rfl (Sub.cons rfl (Sub.nil _)))) (fun _ h => h) ?_
  · exact ⟨Nat.zero_le _, slOk_nil 1⟩
  rintro ⟨k, τ⟩ ⟨hk, hok⟩
  dsimp only at hk hok ⊢
  refine TC.seq ?_
  refine TC.sr ?_
  refine TL.v (Val.move rfl) ?_
  refine TL.v (Val.move rfl) ?_
  refine TL.v (Val.nilCheck rfl) ?_
  refine TL.v (Val.fieldAddr rfl fl105_0 sz26 rfl) ?_
  refine TL.v (Val.fieldAddr rfl fl26_0 sz3 rfl) ?_
  refine TL.v (Val.loadMem rfl ag3 (List.mem_append_right _ hmi) rfl) ?_
  refine TL.v (Val.lss rfl rfl) ?_
  refine TL.nt ?_
  refine TC.condP rfl (fun c1 => ?_) (fun c1 => ?_)
  · skip
    refine TC.skip ?_
    refine AtX.then ?_
    refine TC.seq ?_
    refine TC.block ?_
    refine TC.seq ?_
    have hlt : k < l.length := by omega
    obtain ⟨x, hx⟩ : ∃ x, l[k]? = some x := ⟨_, List.getElem?_eq_getElem hlt⟩
    have hle := badTo_le l k
    refine TC.region ?_
    refine TL.v (Val.move rfl) ?_
    refine TL.v (Val.nilCheck rfl) ?_
    refine TL.v (Val.fieldAddr rfl fl105_2 sz85 rfl) ?_
    refine TL.v (Val.loadMem rfl ag85 (List.mem_append_right _ hmi) rfl) ?_
    refine TL.v (Val.move rfl) ?_
    refine TL.v (Val.indexAddr (i := k) (r := k) rfl rfl sl85 sz4 rfl hlt (by omega)) ?_
    refine TL.v (Val.loadRd (o := 0) (j := k) (v := .bool x) rfl ag4 (Rd.app _ hR) (by omega) (map_get hx)) ?_
    refine TL.nt ?_
    refine TC.cond rfl (fun c2 => ?_) (fun c2 => ?_)
    · skip
      refine TC.region ?_
      refine TL.v (Val.move rfl) ?_
      refine TL.v (Val.move rfl) ?_
      refine TL.d (Does.buildSlice sl22 sz3 ze3 (by decide) (by decide) rfl rfl rfl) ?_
      rintro _ _ ⟨b1, rfl, rfl⟩
      refine TL.d (Does.appendS (xs := (badTo l k).map (Value.int .i64)) (ys := [Value.int .i64 (k : Nat)]) τ H (ro_tail ro_refl) rfl rfl sl22 sz3 by3 ze3 rfl hok (.inl ⟨_, _, rfl, ⟨3, us22⟩, .some (Rd.get (i := 0) rfl rfl)⟩) rfl (one_int _ _) (by omega) (by omega)) ?_
      rintro _ _ ⟨τ1, rfl, hok1, rfl⟩
      refine TL.v (Val.assign rfl) ?_
      refine TL.nil ?_
      refine AtX.blk ?_
      refine AtX.then ?_
      refine TC.region ?_
      refine TL.v (Val.move rfl) ?_
      refine TL.v (Val.add rfl rfl (w_i64 (by omega) (by omega))) ?_
      refine TL.v (Val.assign rfl) ?_
      refine TL.nil ?_
      refine AtX.round (i := (k, τ)) (k + 1, τ1) ?_ ?_ (Sub.cons rfl (Sub.cons (by dsimp only; rw [badTo_t hx c2, List.length_append]; rfl) (Sub.cons rfl (Sub.nil _)))) (fun w h => by dsimp only; rw [badTo_t hx c2, List.map_append]; exact h)
      · exact ⟨by omega, by dsimp only; rw [badTo_t hx c2, List.map_append, List.length_append]; exact hok1⟩
      · show l.length - (k + 1) < l.length - k; omega
    · skip
      refine TC.skip ?_
      refine AtX.blk ?_
      refine AtX.then ?_
      refine TC.region ?_
      refine TL.v (Val.move rfl) ?_
      refine TL.v (Val.add rfl rfl (w_i64 (by omega) (by omega))) ?_
      refine TL.v (Val.assign rfl) ?_
      refine TL.nil ?_
      refine AtX.round (i := (k, τ)) (k + 1, τ) ?_ ?_ (Sub.cons rfl (Sub.cons (by dsimp only; rw [badTo_f hx c2]; rfl) (Sub.cons rfl (Sub.nil _)))) (fun w h => by dsimp only; rw [badTo_f hx c2]; exact h)
      · exact ⟨by omega, by dsimp only; rw [badTo_f hx c2]; exact hok⟩
      · show l.length - (k + 1) < l.length - k; omega
  · skip
    refine TC.exit ?_
    refine AtX.seqX ?_
    refine AtX.seqX ?_
    refine AtX.hit ?_
    refine AtX.then ?_
    refine TC.en (E' := [(3, _)]) ?_
    refine TC.seq ?_
    have hkl : k = l.length := by omega
    subst hkl
    refine TC.region ?_
    refine TL.v (Val.move rfl) ?_
    refine TL.v (Val.assign rfl) ?_
    refine TL.nt ?_
    refine TC.r1 (hM := (fun _ h => h)) (fn := Try.f26) (fun _ _ h => h) rfl (RV.tmp rfl) ?_
    exact ⟨τ, rfl, hok, rfl⟩

end Go.Proofs.Ytphoapajlcaoeaa
/- walks -/
set_option linter.unusedVariables false
set_option linter.unusedSimpArgs false
set_option maxRecDepth 100000
set_option maxHeartbeats 4000000
namespace Go.Proofs.Ytphoapajlcaoeaa
open Go Go.X
/-- (*quorumite/adverse.World).Sample$1 -/
theorem clo51_fn (p1 p2 p3 i1 i2 i3 : Nat) (k me e : Int) (M : Hp) (h1 : M[i1]? = some (p1, .cells #[.int .i64 k] 3 (0, 0))) (h2 : M[i2]? = some (p2, .cells #[.int .i64 me] 3 (0, 0))) (h3 : M[i3]? = some (p3, .cells #[.int .i64 e] 2 (0, 0))) (x : Smp) : FnC Try.prog 51 #[.agg #[.int .i64 x.who, .int .i64 x.metric, .int .i64 x.epoch, .int .i64 x.value], .pointer (some ⟨p1, 0, none⟩), .pointer (some ⟨p2, 0, none⟩), .pointer (some ⟨p3, 0, none⟩)] M (fun v M' => v = .bool (sameS x k me e) ∧ M = M') := by
  refine FnC.intro Try.func51 rfl 22 rfl (by simp) (fun z => ?_)
  refine TC.env (E' := [(0, _), (1, _), (2, _), (3, _)]) (Sub.cons rfl (Sub.cons rfl (Sub.cons rfl (Sub.cons rfl (Sub.nil _))))) ?_
  refine TC.seq ?_
  refine TC.region ?_
  refine TL.does (some 4) rfl rfl rfl (Does.box rfl rfl) ?_
  rintro _ _ ⟨b1, rfl, rfl⟩
  refine TL.val rfl rfl (Nat.le_of_ble_eq_true rfl) (Val.assign rfl) ?_
  refine TL.nil ?_
  refine AtX.then ?_
  refine TC.env (E' := [(1, _), (2, _), (3, _), (4, _), (5, _)]) (Sub.cons rfl (Sub.cons rfl (Sub.cons rfl (Sub.cons rfl (Sub.cons rfl (Sub.nil _)))))) ?_
  refine TC.seq ?_
  refine TC.region ?_
  refine TL.val rfl rfl (Nat.le_of_ble_eq_true rfl) (Val.fieldAddr rfl fl100_0 sz3 rfl) ?_
  refine TL.val rfl rfl (Nat.le_of_ble_eq_true rfl) (Val.load 0 rfl ag3 rfl rfl) ?_
  refine TL.val rfl rfl (Nat.le_of_ble_eq_true rfl) (Val.load (i1 + 1) rfl ag3 h1 rfl) ?_
  refine TL.val rfl rfl (Nat.le_of_ble_eq_true rfl) (Val.eqlI rfl rfl) ?_
  refine TL.val rfl rfl (Nat.le_of_ble_eq_true rfl) (Val.move rfl) ?_
  refine TL.gen (fun g2 hg2 => ?_)
  refine TL.gval rfl rfl (Nat.le_of_ble_eq_true rfl) rfl (Nat.le_of_ble_eq_true rfl) rfl (fun hg => by subst hg; exact (Val.fieldAddr rfl fl100_1 sz3 rfl)) ?_
  refine TL.gval rfl rfl (Nat.le_of_ble_eq_true rfl) rfl (Nat.le_of_ble_eq_true rfl) rfl (fun hg => by subst hg; exact (Val.load 0 rfl ag3 rfl rfl)) ?_
  refine TL.gval rfl rfl (Nat.le_of_ble_eq_true rfl) rfl (Nat.le_of_ble_eq_true rfl) rfl (fun hg => by subst hg; exact (Val.load (i2 + 1) rfl ag3 h2 rfl)) ?_
  refine TL.gval rfl rfl (Nat.le_of_ble_eq_true rfl) rfl (Nat.le_of_ble_eq_true rfl) rfl (fun hg => by subst hg; exact (Val.eqlI rfl rfl)) ?_
  refine TL.val rfl rfl (Nat.le_of_ble_eq_true rfl) (Val.pickAnd rfl rfl rfl) ?_
  refine TL.val rfl rfl (Nat.le_of_ble_eq_true rfl) (Val.move rfl) ?_
  refine TL.gen (fun g3 hg3 => ?_)
  refine TL.gval rfl rfl (Nat.le_of_ble_eq_true rfl) rfl (Nat.le_of_ble_eq_true rfl) rfl (fun hg => by subst hg; exact (Val.fieldAddr rfl fl100_2 sz2 rfl)) ?_
  refine TL.gval rfl rfl (Nat.le_of_ble_eq_true rfl) rfl (Nat.le_of_ble_eq_true rfl) rfl (fun hg => by subst hg; exact (Val.load 0 rfl ag2 rfl rfl)) ?_
  refine TL.gval rfl rfl (Nat.le_of_ble_eq_true rfl) rfl (Nat.le_of_ble_eq_true rfl) rfl (fun hg => by subst hg; exact (Val.load (i3 + 1) rfl ag2 h3 rfl)) ?_
  refine TL.gval rfl rfl (Nat.le_of_ble_eq_true rfl) rfl (Nat.le_of_ble_eq_true rfl) rfl (fun hg => by subst hg; exact (Val.eqlI rfl rfl)) ?_
  refine TL.val rfl rfl (Nat.le_of_ble_eq_true rfl) (Val.pickAnd rfl rfl rfl) ?_
  refine TL.val rfl rfl (Nat.le_of_ble_eq_true rfl) (Val.assign rfl) ?_
  refine TL.nil ?_
  refine AtX.then ?_
  refine TC.env (E' := [(5, _)]) (Sub.cons rfl (Sub.nil _)) ?_
  refine TC.ret1 (fn := Try.f51) (fun _ _ h => h) rfl (RV.tmp rfl) (M' := M) (by repeat (first | exact ro_refl | exact ro_pre | refine ro_tail ?_ | refine ro_app ?_)) ?_
  refine ⟨?_, rfl⟩
  subst_vars
  rfl

/-- slices.IndexFunc[[]quorumite/api.Sample,quorumite/api.Sample] -/
theorem IndexFunc_fn (p1 p2 p3 i1 i2 i3 : Nat) (k me e : Int) (M : Hp) (h1 : M[i1]? = some (p1, .cells #[.int .i64 k] 3 (0, 0))) (h2 : M[i2]? = some (p2, .cells #[.int .i64 me] 3 (0, 0))) (h3 : M[i3]? = some (p3, .cells #[.int .i64 e] 2 (0, 0))) (kept : List Smp) (A : Option Addr) (nn cc : Nat) (hA : RdS M A (kept.flatMap Smp.cs)) (hn : nn = kept.length) (hl : kept.length ≤ 1000) : FnC Try.prog 86 #[.slice A nn cc, .func (.func 51) #[] #[.pointer (some ⟨p1, 0, none⟩), .pointer (some ⟨p2, 0, none⟩), .pointer (some ⟨p3, 0, none⟩)]] M (fun v M' => ∃ r : Int, v = .int .i64 r ∧ decide (0 ≤ r) = kept.any (fun x => sameS x k me e) ∧ M = M') := by
  subst hn
  refine FnC.intro Try.func86 rfl 19 rfl (by simp) (fun z => ?_)
  refine TC.env (E' := [(0, _), (1, _)]) (Sub.cons rfl (Sub.cons rfl (Sub.nil _))) ?_
  refine TC.seq ?_
  refine TC.region ?_
  refine TL.val rfl rfl (Nat.le_of_ble_eq_true rfl) (Val.assign rfl) ?_
  refine TL.nil ?_
  refine AtX.then ?_
  refine TC.seq ?_
  refine TC.seq ?_
  refine TC.region ?_
  refine TL.val rfl rfl (Nat.le_of_ble_eq_true rfl) (Val.move rfl) ?_
  refine TL.val rfl rfl (Nat.le_of_ble_eq_true rfl) (Val.lenSl rfl rfl sl87) ?_
  refine TL.val rfl rfl (Nat.le_of_ble_eq_true rfl) (Val.move rfl) ?_
  refine TL.nil ?_
  refine AtX.then ?_
  refine TC.env (E' := [(0, _), (1, _), (4, _), (7, _), (8, _)]) (Sub.cons rfl (Sub.cons rfl (Sub.cons rfl (Sub.cons rfl (Sub.cons rfl (Sub.nil _)))))) ?_
  refine TC.block ?_
  refine TC.loop (ι := Nat) (fun j => [(0, .slice A kept.length cc), (1, .func (.func 51) #[] #[.pointer (some ⟨p1, 0, none⟩), .pointer (some ⟨p2, 0, none⟩), .pointer (some ⟨p3, 0, none⟩)]), (7, .int .i64 (kept.length : Nat)), (8, .int .i64 (j : Nat))]) (fun _ => M) (fun j => j ≤ kept.length ∧ ∀ x ∈ kept.take j, sameS x k me e = false) (fun j => kept.length - j) 0 ?_ (Sub.cons rfl (Sub.cons rfl (Sub.cons rfl (Sub.cons rfl (Sub.nil _))))) (fun _ h => h) ?_
  · exact ⟨Nat.zero_le _, by simp⟩
  rintro j ⟨hj, hI⟩
  refine TC.seq ?_
  refine TC.region ?_
  refine TL.val rfl rfl (Nat.le_of_ble_eq_true rfl) (Val.lss rfl rfl) ?_
  refine TL.nil ?_
  refine AtX.then ?_
  refine TC.seq ?_
  first | refine TC.condP rfl (fun c1 => ?_) (fun c1 => ?_) | refine TC.condN rfl (fun c1 => ?_) (fun c1 => ?_) | refine TC.condB rfl (fun c1 => ?_) (fun c1 => ?_) | refine TC.cond rfl (fun c1 => ?_) (fun c1 => ?_)
  · skip
    refine TC.skip ?_
    refine AtX.then ?_
    refine TC.seq ?_
    refine TC.block ?_
    refine TC.seq ?_
    refine TC.region ?_
    refine TL.val rfl rfl (Nat.le_of_ble_eq_true rfl) (Val.move rfl) ?_
    refine TL.val rfl rfl (Nat.le_of_ble_eq_true rfl) (Val.assign rfl) ?_
    refine TL.nil ?_
    refine AtX.then ?_
    refine TC.seq ?_
    have hlt : j < kept.length := by omega
    obtain ⟨x, hx⟩ : ∃ x, kept[j]? = some x := ⟨_, List.getElem?_eq_getElem hlt⟩
    obtain ⟨bA, oA, rfl, hR⟩ := RdS.get hA (by rw [flat_len Smp.cs_len]; omega)
    refine TC.region ?_
    refine TL.val rfl rfl (Nat.le_of_ble_eq_true rfl) (Val.move rfl) ?_
    refine TL.val rfl rfl (Nat.le_of_ble_eq_true rfl) (Val.move rfl) ?_
    refine TL.val rfl rfl (Nat.le_of_ble_eq_true rfl) (Val.move rfl) ?_
    refine TL.val rfl rfl (Nat.le_of_ble_eq_true rfl) (Val.indexAddr (i := j) (r := oA + 4 * j) rfl rfl sl87 sz100 rfl hlt (by omega)) ?_
    refine TL.val rfl rfl (Nat.le_of_ble_eq_true rfl) (Val.loadAggR (o := oA) (j := 4 * j) (vs := x.cs) rfl ag100 sz100 hR rfl (flat_seg Smp.cs_len hx) rfl) ?_
    refine TL.does (some 16) rfl rfl rfl (Does.callC (cap := [.pointer (some ⟨p1, 0, none⟩), .pointer (some ⟨p2, 0, none⟩), .pointer (some ⟨p3, 0, none⟩)]) rfl go51 rfl (clo51_fn p1 p2 p3 i1 i2 i3 k me e _ h1 h2 h3 x)) ?_
    rintro _ _ ⟨rfl, rfl⟩
    refine TL.nil ?_
    refine AtX.then ?_
    first | refine TC.condP rfl (fun c2 => ?_) (fun c2 => ?_) | refine TC.condN rfl (fun c2 => ?_) (fun c2 => ?_) | refine TC.condB rfl (fun c2 => ?_) (fun c2 => ?_) | refine TC.cond rfl (fun c2 => ?_) (fun c2 => ?_)
    · skip
      refine TC.seq ?_
      refine TC.region ?_
      refine TL.val rfl rfl (Nat.le_of_ble_eq_true rfl) (Val.move rfl) ?_
      refine TL.val rfl rfl (Nat.le_of_ble_eq_true rfl) (Val.assign rfl) ?_
      refine TL.nil ?_
      refine AtX.then ?_
      refine TC.ret1 (fn := Try.f86) (fun _ _ h => h) rfl (RV.tmp rfl) (fun _ h => h) ?_
      refine ⟨_, rfl, ?_, rfl⟩
      first | exact any_t (f := fun x => sameS x k me e) hx c2 | exact any_f hI (by omega)
    · skip
      refine TC.skip ?_
      refine AtX.blk ?_
      refine AtX.then ?_
      refine TC.region ?_
      refine TL.val rfl rfl (Nat.le_of_ble_eq_true rfl) (Val.add rfl rfl (w_i64 (by omega) (by omega))) ?_
      refine TL.val rfl rfl (Nat.le_of_ble_eq_true rfl) (Val.move rfl) ?_
      refine TL.nil ?_
      refine AtX.round (j + 1) ?_ ?_ (Sub.cons rfl (Sub.cons rfl (Sub.cons rfl (Sub.cons rfl (Sub.nil _))))) (fun _ h => h)
      · exact ⟨by omega, take_no (f := fun x => sameS x k me e) hI hx (by simpa using c2)⟩
      · omega
  · skip
    refine TC.exit ?_
    refine AtX.seqX ?_
    refine AtX.seqX ?_
    refine AtX.hit ?_
    refine AtX.then ?_
    refine TC.env (E' := []) (Sub.nil _) ?_
    refine TC.seq ?_
    refine TC.region ?_
    refine TL.val rfl rfl (Nat.le_of_ble_eq_true rfl) (Val.assign rfl) ?_
    refine TL.nil ?_
    refine AtX.then ?_
    refine TC.env (E' := [(4, _)]) (Sub.cons rfl (Sub.nil _)) ?_
    refine TC.ret1 (fn := Try.f86) (fun _ _ h => h) rfl (RV.tmp rfl) (fun _ h => h) ?_
    refine ⟨_, rfl, ?_, rfl⟩
    first | exact any_t (f := fun x => sameS x k me e) hx c2 | exact any_f hI (by omega)

/-- slices.ContainsFunc[[]quorumite/api.Sample,quorumite/api.Sample] -/
theorem Contains_fn (p1 p2 p3 i1 i2 i3 : Nat) (k me e : Int) (M : Hp) (h1 : M[i1]? = some (p1, .cells #[.int .i64 k] 3 (0, 0))) (h2 : M[i2]? = some (p2, .cells #[.int .i64 me] 3 (0, 0))) (h3 : M[i3]? = some (p3, .cells #[.int .i64 e] 2 (0, 0))) (kept : List Smp) (A : Option Addr) (nn cc : Nat) (hA : RdS M A (kept.flatMap Smp.cs)) (hn : nn = kept.length) (hl : kept.length ≤ 1000) : FnC Try.prog 50 #[.slice A nn cc, .func (.func 51) #[] #[.pointer (some ⟨p1, 0, none⟩), .pointer (some ⟨p2, 0, none⟩), .pointer (some ⟨p3, 0, none⟩)]] M (fun v M' => v = .bool (kept.any (fun x => sameS x k me e)) ∧ M = M') := by
  refine FnC.intro Try.func50 rfl 9 rfl (by simp) (fun z => ?_)
  refine TC.env (E' := [(0, _), (1, _)]) (Sub.cons rfl (Sub.cons rfl (Sub.nil _))) ?_
  refine TC.seq ?_
  refine TC.region ?_
  refine TL.val rfl rfl (Nat.le_of_ble_eq_true rfl) (Val.assign rfl) ?_
  refine TL.nil ?_
  refine AtX.then ?_
  refine TC.seq ?_
  refine TC.region ?_
  refine TL.val rfl rfl (Nat.le_of_ble_eq_true rfl) (Val.move rfl) ?_
  refine TL.val rfl rfl (Nat.le_of_ble_eq_true rfl) (Val.move rfl) ?_
  refine TL.does (some 7) rfl rfl rfl (Does.callF go86 rfl (IndexFunc_fn p1 p2 p3 i1 i2 i3 k me e _ h1 h2 h3 kept A nn cc hA hn hl)) ?_
  rintro _ _ ⟨r, rfl, hr, rfl⟩
  refine TL.val rfl rfl (Nat.le_of_ble_eq_true rfl) (Val.geq rfl rfl) ?_
  refine TL.val rfl rfl (Nat.le_of_ble_eq_true rfl) (Val.assign rfl) ?_
  refine TL.nil ?_
  refine AtX.then ?_
  refine TC.env (E' := [(4, _)]) (Sub.cons rfl (Sub.nil _)) ?_
  refine TC.ret1 (fn := Try.f50) (fun _ _ h => h) rfl (RV.tmp rfl) (fun _ h => h) ?_
  exact ⟨by rw [← hr], rfl⟩

/-- (*quorumite/adverse.World).Sample -/
theorem wSample_ok (b bl cl bb : Nat) (c : Cf) (σ : Sl) (kept : List Smp) (n : Int) (l : List Bool) (ps spl : List Value) (jb jl js : Nat) (H0 : Hp) (hb : H0[jb]? = some (bb, row 4 (l.map Value.bool))) (hl : H0[jl]? = some (bl, row 57 (ps ++ spl))) (hpl : ps.length = l.length) (sb k : Nat) (s g q : Int) (hp : ps[k]? = some (.pointer (some ⟨sb, 0, none⟩))) (hs : H0[js]? = some (sobj sb s (k : Nat) g q)) (hok : slOk σ 4 kept.length (kept.flatMap Smp.cs)) (hkl : kept.length ≤ 1000) (hn : 0 ≤ n ∧ n ≤ 1000000) (me e v : Int) (hm : mayM ⟨1, (k : Nat), g, q + 1, e, v, me⟩ = true) (hx : l[k]? = some false) (hno : kept.any (fun x => sameS x (k : Nat) me e) = false) : FnC Try.prog 16 #[.pointer (some ⟨b, 0, none⟩), .int .i64 ((k : Nat) : Int), .int .i64 me, .int .i64 e, .int .i64 v] (wob b c (some ⟨bl, 0, none⟩) ps.length cl bb l.length σ kept.length n :: (slH σ 100 (kept.flatMap Smp.cs) ++ H0)) (fun u M' => ∃ bE c' sp σ', u = .tuple #[.slice (some ⟨bE, 0, none⟩) 48 c', .int .i64 0] ∧ slOk σ' 4 (kept.length + 1) ((kept.flatMap Smp.cs) ++ Smp.cs ⟨(k : Nat), me, e, v⟩) ∧ M' = (bE, row 5 (bv (sealB (macKey s (k : Nat) g) ⟨1, (k : Nat), g, q + 1, e, v, me⟩) ++ sp)) :: wob b c (some ⟨bl, 0, none⟩) ps.length cl bb l.length σ' (kept.length + 1) (n + 1) :: (slH σ' 100 ((kept.flatMap Smp.cs) ++ Smp.cs ⟨(k : Nat), me, e, v⟩) ++ H0.set js (sobj sb s (k : Nat) g (q + 1)))) := by
  have hk2 : k < ps.length := (List.getElem?_eq_some_iff.1 hp).1
  have hRl := rd_row0 hl
  have hRb := rd_rowA hb
  obtain ⟨qk, qw, qg, qs, qe, qme, qv⟩ := mayM_iff.1 hm
  simp only at qk qw qg qs qe qme qv
  have hRk : RdS (slH σ 100 (kept.flatMap Smp.cs) ++ H0) (slA σ) (kept.flatMap Smp.cs) := rdS_opt hok
  refine FnC.intro Try.func16 rfl 78 rfl (by simp) (fun z => ?_)
  refine TC.env (E' := [(0, _), (1, _), (2, _), (3, _), (4, _)]) (Sub.cons rfl (Sub.cons rfl (Sub.cons rfl (Sub.cons rfl (Sub.cons rfl (Sub.nil _)))))) ?_
  refine TC.seq ?_
  refine TC.region ?_
  refine TL.does (some 6) rfl rfl rfl (Does.box rfl rfl) ?_
  rintro _ _ ⟨b1, rfl, rfl⟩
  refine TL.does (some 7) rfl rfl rfl (Does.box rfl rfl) ?_
  rintro _ _ ⟨b2, rfl, rfl⟩
  refine TL.does (some 8) rfl rfl rfl (Does.box rfl rfl) ?_
  rintro _ _ ⟨b3, rfl, rfl⟩
  refine TL.val rfl rfl (Nat.le_of_ble_eq_true rfl) (Val.assign rfl) ?_
  refine TL.val rfl rfl (Nat.le_of_ble_eq_true rfl) (Val.assign rfl) ?_
  refine TL.nil ?_
  refine AtX.then ?_
  refine TC.env (E' := [(0, _), (4, _), (6, _), (7, _), (8, _), (10, _), (11, _)]) (Sub.cons rfl (Sub.cons rfl (Sub.cons rfl (Sub.cons rfl (Sub.cons rfl (Sub.cons rfl (Sub.cons rfl (Sub.nil _)))))))) ?_
  refine TC.seq ?_
  refine TC.seq ?_
  refine TC.region ?_
  refine TL.val rfl rfl (Nat.le_of_ble_eq_true rfl) (Val.move rfl) ?_
  refine TL.val rfl rfl (Nat.le_of_ble_eq_true rfl) (Val.load 2 rfl ag3 rfl rfl) ?_
  refine TL.does (some 16) rfl rfl rfl (Does.callF go46 rfl (has_ok b 3 c _ ps.length cl bb l.length σ kept.length n _ rfl k hk2)) ?_
  rintro _ _ ⟨rfl, rfl⟩
  refine TL.val rfl rfl (Nat.le_of_ble_eq_true rfl) (Val.assign rfl) ?_
  refine TL.nil ?_
  refine AtX.then ?_
  refine TC.env (E' := [(0, _), (4, _), (6, _), (7, _), (8, _), (10, _), (11, _), (12, _)]) (Sub.cons rfl (Sub.cons rfl (Sub.cons rfl (Sub.cons rfl (Sub.cons rfl (Sub.cons rfl (Sub.cons rfl (Sub.cons rfl (Sub.nil _))))))))) ?_
  refine TC.seq ?_
  refine TC.region ?_
  refine TL.val rfl rfl (Nat.le_of_ble_eq_true rfl) (Val.move rfl) ?_
  refine TL.val rfl rfl (Nat.le_of_ble_eq_true rfl) (Val.neqI rfl rfl) ?_
  refine TL.nil ?_
  refine AtX.then ?_
  refine TC.env (E' := [(0, _), (4, _), (6, _), (7, _), (8, _), (10, _), (11, _), (12, _), (18, _)]) (Sub.cons rfl (Sub.cons rfl (Sub.cons rfl (Sub.cons rfl (Sub.cons rfl (Sub.cons rfl (Sub.cons rfl (Sub.cons rfl (Sub.cons rfl (Sub.nil _)))))))))) ?_
  first | refine TC.condP rfl (fun c1 => ?_) (fun c1 => ?_) | refine TC.condN rfl (fun c1 => ?_) (fun c1 => ?_) | refine TC.condB rfl (fun c1 => ?_) (fun c1 => ?_) | refine TC.cond rfl (fun c1 => ?_) (fun c1 => ?_)
  · skip
    exact absurd rfl c1
  · skip
    refine TC.env (E' := [(0, _), (4, _), (6, _), (7, _), (8, _), (10, _), (11, _)]) (Sub.cons rfl (Sub.cons rfl (Sub.cons rfl (Sub.cons rfl (Sub.cons rfl (Sub.cons rfl (Sub.cons rfl (Sub.nil _)))))))) ?_
    refine TC.skip ?_
    refine AtX.then ?_
    refine TC.env (E' := [(0, _), (4, _), (6, _), (7, _), (8, _), (10, _), (11, _)]) (Sub.cons rfl (Sub.cons rfl (Sub.cons rfl (Sub.cons rfl (Sub.cons rfl (Sub.cons rfl (Sub.cons rfl (Sub.nil _)))))))) ?_
    refine TC.seq ?_
    refine TC.drawLM mixed 8 ?_
    refine TA.tk 0 1 rfl rfl rfl (Val.move rfl) ?_
    refine TA.tk 1 3 rfl rfl rfl (Val.nilCheck rfl) ?_
    refine TA.tk 2 7 rfl rfl rfl (Val.fieldAddr rfl fl94_1 sz86 rfl) ?_
    refine TA.tk 3 15 rfl rfl rfl (Val.load 3 rfl ag86 rfl rfl) ?_
    refine TA.tk 4 31 rfl rfl rfl (Val.load 2 rfl ag3 rfl rfl) ?_
    refine TA.tk 5 63 rfl rfl rfl (Val.indexAddr (i := k) (r := k) rfl rfl sl86 sz57 rfl hk2 (by omega)) ?_
    refine TA.tk 6 127 rfl rfl rfl (Val.loadRd (o := 0) (j := k) rfl ag57 (Rd.cons _ (Rd.cons _ (Rd.cons _ (Rd.cons _ (Rd.app _ hRl))))) (by omega) hp) ?_
    refine TA.tk 7 255 rfl rfl rfl (Val.assign rfl) ?_
    refine TA.done (by kernel_rfl) ?_
    refine AtX.then ?_
    refine TC.env (E' := [(0, _), (4, _), (6, _), (7, _), (8, _), (10, _), (11, _), (13, _)]) (Sub.cons rfl (Sub.cons rfl (Sub.cons rfl (Sub.cons rfl (Sub.cons rfl (Sub.cons rfl (Sub.cons rfl (Sub.cons rfl (Sub.nil _))))))))) ?_
    refine TC.seq ?_
    refine TC.seq ?_
    refine TC.drawLM mixed 12 ?_
    refine TA.tk 0 1 rfl rfl rfl (Val.load 2 rfl ag3 rfl rfl) ?_
    refine TA.tk 1 3 rfl rfl rfl (Val.move rfl) ?_
    refine TA.tk 3 11 rfl rfl rfl (Val.move rfl) ?_
    refine TA.tk 6 75 rfl rfl rfl (Val.load 0 rfl ag2 rfl rfl) ?_
    refine TA.tk 7 203 rfl rfl rfl (Val.move rfl) ?_
    refine TA.tk 8 459 rfl rfl rfl (Val.load 1 rfl ag3 rfl rfl) ?_
    refine TA.one 2 (by kernel_rfl) ?_
    refine TO.dz 463 (some 29) rfl rfl rfl rfl (Does.callF go48 rfl (Gen_fn sb _ s (k : Nat) g q _ (get_app4 hs))) ?_
    rintro _ _ ⟨rfl, rfl⟩
    refine roK ?_
    refine TA.one 4 (by kernel_rfl) ?_
    refine TO.dz 479 (some 31) rfl rfl rfl rfl (Does.callF go49 rfl (Seq_fn sb _ s (k : Nat) g q _ (get_app4 hs))) ?_
    rintro _ _ ⟨rfl, rfl⟩
    refine roK ?_
    refine TA.tk 5 511 rfl rfl rfl (Val.add rfl rfl (r := q + 1) (w_i64 (by omega) (by omega))) ?_
    refine TA.tk 9 1023 rfl rfl rfl (Val.buildS pl61 ze61 rfl rfl) ?_
    refine TA.one 10 (by kernel_rfl) ?_
    refine TO.dz 2047 (some 37) rfl rfl rfl rfl (Does.callF go47 rfl (May_true ⟨1, (k : Nat), g, q + 1, e, v, me⟩ _ hm)) ?_
    rintro _ _ ⟨rfl, rfl⟩
    refine roK ?_
    refine TA.tk 11 4095 rfl rfl rfl (Val.not rfl) ?_
    refine TA.done (by kernel_rfl) ?_
    refine AtX.then ?_
    refine TC.env (E' := [(0, _), (4, _), (6, _), (7, _), (8, _), (10, _), (11, _), (13, _), (38, _)]) (Sub.cons rfl (Sub.cons rfl (Sub.cons rfl (Sub.cons rfl (Sub.cons rfl (Sub.cons rfl (Sub.cons rfl (Sub.cons rfl (Sub.cons rfl (Sub.nil _)))))))))) ?_
    first | refine TC.condP rfl (fun c2 => ?_) (fun c2 => ?_) | refine TC.condN rfl (fun c2 => ?_) (fun c2 => ?_) | refine TC.condB rfl (fun c2 => ?_) (fun c2 => ?_) | refine TC.cond rfl (fun c2 => ?_) (fun c2 => ?_)
    · skip
      cases c2
    · skip
      refine TC.env (E' := [(0, _), (4, _), (6, _), (7, _), (8, _), (10, _), (11, _), (13, _)]) (Sub.cons rfl (Sub.cons rfl (Sub.cons rfl (Sub.cons rfl (Sub.cons rfl (Sub.cons rfl (Sub.cons rfl (Sub.cons rfl (Sub.nil _))))))))) ?_
      refine TC.skip ?_
      refine AtX.then ?_
      refine TC.env (E' := [(0, _), (4, _), (6, _), (7, _), (8, _), (10, _), (11, _), (13, _)]) (Sub.cons rfl (Sub.cons rfl (Sub.cons rfl (Sub.cons rfl (Sub.cons rfl (Sub.cons rfl (Sub.cons rfl (Sub.cons rfl (Sub.nil _))))))))) ?_
      refine TC.seq ?_
      refine TC.seq ?_
      refine TC.drawLM mixed 8 ?_
      refine TA.tk 0 1 rfl rfl rfl (Val.move rfl) ?_
      refine TA.tk 1 3 rfl rfl rfl (Val.nilCheck rfl) ?_
      refine TA.tk 2 7 rfl rfl rfl (Val.fieldAddr rfl fl94_2 sz85 rfl) ?_
      refine TA.tk 3 15 rfl rfl rfl (Val.load 3 rfl ag85 rfl rfl) ?_
      refine TA.tk 4 31 rfl rfl rfl (Val.load 2 rfl ag3 rfl rfl) ?_
      refine TA.tk 5 63 rfl rfl rfl (Val.indexAddr (i := k) (r := k) rfl rfl sl85 sz4 rfl (by omega) (by omega)) ?_
      refine TA.tk 6 127 rfl rfl rfl (Val.loadRd (o := 0) (j := k) (v := .bool false) rfl ag4 (Rd.cons _ (Rd.cons _ (Rd.cons _ (Rd.cons _ (Rd.app _ hRb))))) (by omega) (map_get hx)) ?_
      refine TA.tk 7 255 rfl rfl rfl (Val.not rfl) ?_
      refine TA.done (by kernel_rfl) ?_
      refine AtX.then ?_
      refine TC.env (E' := [(0, _), (4, _), (6, _), (7, _), (8, _), (10, _), (11, _), (13, _), (46, _)]) (Sub.cons rfl (Sub.cons rfl (Sub.cons rfl (Sub.cons rfl (Sub.cons rfl (Sub.cons rfl (Sub.cons rfl (Sub.cons rfl (Sub.cons rfl (Sub.nil _)))))))))) ?_
      first | refine TC.condP rfl (fun c3 => ?_) (fun c3 => ?_) | refine TC.condN rfl (fun c3 => ?_) (fun c3 => ?_) | refine TC.condB rfl (fun c3 => ?_) (fun c3 => ?_) | refine TC.cond rfl (fun c3 => ?_) (fun c3 => ?_)
      · skip
        refine TC.env (E' := [(0, _), (4, _), (6, _), (7, _), (8, _), (10, _), (11, _), (13, _)]) (Sub.cons rfl (Sub.cons rfl (Sub.cons rfl (Sub.cons rfl (Sub.cons rfl (Sub.cons rfl (Sub.cons rfl (Sub.cons rfl (Sub.nil _))))))))) ?_
        refine TC.seq ?_
        refine TC.seq ?_
        refine TC.region ?_
        refine TL.val rfl rfl (Nat.le_of_ble_eq_true rfl) (Val.move rfl) ?_
        refine TL.val rfl rfl (Nat.le_of_ble_eq_true rfl) (Val.nilCheck rfl) ?_
        refine TL.val rfl rfl (Nat.le_of_ble_eq_true rfl) (Val.fieldAddr rfl fl94_3 sz87 rfl) ?_
        refine TL.val rfl rfl (Nat.le_of_ble_eq_true rfl) (Val.load 3 rfl ag87 rfl rfl) ?_
        refine TL.val rfl rfl (Nat.le_of_ble_eq_true rfl) (Val.makeFunc rfl rfl) ?_
        refine TL.does (some 52) rfl rfl rfl (Does.callF go50 rfl (Contains_fn b1 b2 b3 2 1 0 (k : Nat) me e _ rfl rfl rfl kept _ _ _ ((((hRk.cons _).cons _).cons _).cons _) rfl hkl)) ?_
        rintro _ _ ⟨rfl, rfl⟩
        refine TL.nil ?_
        refine AtX.then ?_
        refine TC.env (E' := [(0, _), (4, _), (6, _), (7, _), (8, _), (10, _), (11, _), (13, _), (52, _)]) (Sub.cons rfl (Sub.cons rfl (Sub.cons rfl (Sub.cons rfl (Sub.cons rfl (Sub.cons rfl (Sub.cons rfl (Sub.cons rfl (Sub.cons rfl (Sub.nil _)))))))))) ?_
        first | refine TC.condP rfl (fun c4 => ?_) (fun c4 => ?_) | refine TC.condN rfl (fun c4 => ?_) (fun c4 => ?_) | refine TC.condB rfl (fun c4 => ?_) (fun c4 => ?_) | refine TC.cond rfl (fun c4 => ?_) (fun c4 => ?_)
        · skip
          (rw [hno] at c4; cases c4)
        · skip
          refine TC.env (E' := [(0, _), (4, _), (6, _), (7, _), (8, _), (10, _), (11, _), (13, _)]) (Sub.cons rfl (Sub.cons rfl (Sub.cons rfl (Sub.cons rfl (Sub.cons rfl (Sub.cons rfl (Sub.cons rfl (Sub.cons rfl (Sub.nil _))))))))) ?_
          refine TC.skip ?_
          refine AtX.then ?_
          refine TC.env (E' := [(0, _), (4, _), (6, _), (7, _), (8, _), (10, _), (11, _), (13, _)]) (Sub.cons rfl (Sub.cons rfl (Sub.cons rfl (Sub.cons rfl (Sub.cons rfl (Sub.cons rfl (Sub.cons rfl (Sub.cons rfl (Sub.nil _))))))))) ?_
          refine TC.drawGM [14] [(b3, .cells #[.int .i64 e] 2 (0, 0)), (b2, .cells #[.int .i64 me] 3 (0, 0)), (b1, .cells #[.int .i64 ((k : Nat) : Int)] 3 (0, 0)), wob b c (some ⟨bl, 0, none⟩) ps.length cl bb l.length σ kept.length n] [] mixed 15 ?_
          refine TG.tk false 0 1 rfl rfl rfl (Val.move rfl) ?_ (hro := (by first | exact Go.X.ro_nil | (repeat (first | exact Go.X.ro_pre4 | refine Go.X.ro_tail ?_ | refine Go.X.ro_app ?_))))
          refine TG.tk false 1 3 rfl rfl rfl (Val.move rfl) ?_ (hro := (by first | exact Go.X.ro_nil | (repeat (first | exact Go.X.ro_pre4 | refine Go.X.ro_tail ?_ | refine Go.X.ro_app ?_))))
          refine TG.tk false 2 7 rfl rfl rfl (Val.nilCheck rfl) ?_ (hro := (by first | exact Go.X.ro_nil | (repeat (first | exact Go.X.ro_pre4 | refine Go.X.ro_tail ?_ | refine Go.X.ro_app ?_))))
          refine TG.tk false 3 15 rfl rfl rfl (Val.fieldAddr rfl fl94_3 sz87 rfl) ?_ (hro := (by first | exact Go.X.ro_nil | (repeat (first | exact Go.X.ro_pre4 | refine Go.X.ro_tail ?_ | refine Go.X.ro_app ?_))))
          refine TG.tk false 4 31 rfl rfl rfl (Val.load 3 rfl ag87 rfl rfl) ?_ (hro := (by first | exact Go.X.ro_nil | (repeat (first | exact Go.X.ro_pre4 | refine Go.X.ro_tail ?_ | refine Go.X.ro_app ?_))))
          refine TG.tk false 5 63 rfl rfl rfl (Val.load 2 rfl ag3 rfl rfl) ?_ (hro := (by first | exact Go.X.ro_nil | (repeat (first | exact Go.X.ro_pre4 | refine Go.X.ro_tail ?_ | refine Go.X.ro_app ?_))))
          refine TG.tk false 6 127 rfl rfl rfl (Val.load 1 rfl ag3 rfl rfl) ?_ (hro := (by first | exact Go.X.ro_nil | (repeat (first | exact Go.X.ro_pre4 | refine Go.X.ro_tail ?_ | refine Go.X.ro_app ?_))))
          refine TG.tk false 7 255 rfl rfl rfl (Val.load 0 rfl ag2 rfl rfl) ?_ (hro := (by first | exact Go.X.ro_nil | (repeat (first | exact Go.X.ro_pre4 | refine Go.X.ro_tail ?_ | refine Go.X.ro_app ?_))))
          refine TG.tk false 8 511 rfl rfl rfl (Val.move rfl) ?_ (hro := (by first | exact Go.X.ro_nil | (repeat (first | exact Go.X.ro_pre4 | refine Go.X.ro_tail ?_ | refine Go.X.ro_app ?_))))
          refine TG.tk false 9 1023 rfl rfl rfl (Val.buildS pl100 ze100 rfl rfl) ?_ (hro := (by first | exact Go.X.ro_nil | (repeat (first | exact Go.X.ro_pre4 | refine Go.X.ro_tail ?_ | refine Go.X.ro_app ?_))))
          refine TG.one 10 (by kernel_rfl) ?_
          refine TP.dz false 2047 (some 63) rfl rfl rfl rfl (Does.buildSlice (cs := Smp.cs ⟨(k : Nat), me, e, v⟩) sl87 sz100 ze100 (by decide) (by decide) rfl rfl rfl) ?_
          rintro _ _ ⟨bt, rfl, rfl⟩
          refine ⟨(by first | exact Go.X.ro_nil | (repeat (first | exact Go.X.ro_pre4 | refine Go.X.ro_tail ?_ | refine Go.X.ro_app ?_))), ?_⟩
          refine TG.one 11 (by kernel_rfl) ?_
          refine TP.dz false 4095 (some 64) rfl rfl rfl rfl (Does.appendS (xs := (kept.flatMap Smp.cs)) (ys := Smp.cs ⟨(k : Nat), me, e, v⟩) σ ((b3, .cells #[.int .i64 e] 2 (0, 0)) :: (b2, .cells #[.int .i64 me] 3 (0, 0)) :: (b1, .cells #[.int .i64 ((k : Nat) : Int)] 3 (0, 0)) :: wob b c (some ⟨bl, 0, none⟩) ps.length cl bb l.length σ kept.length n :: H0) (fun w h => ro_mv (A := [_, _, _, _]) w h.drop) rfl rfl sl87 sz100 by100 ze100 rfl hok (.inl ⟨_, _, rfl, ⟨100, us87⟩, .some (Rd.get (i := 0) rfl rfl)⟩) rfl (one_smp _) (by omega) (by omega)) ?_
          rintro _ _ ⟨σ1, rfl, hok1, rfl⟩
          refine ⟨(by first | exact Go.X.ro_nil | (repeat (first | exact Go.X.ro_pre4 | refine Go.X.ro_tail ?_ | refine Go.X.ro_app ?_))), ?_⟩
          refine TG.heap (M' := (b3, .cells #[.int .i64 e] 2 (0, 0)) :: (b2, .cells #[.int .i64 me] 3 (0, 0)) :: (b1, .cells #[.int .i64 ((k : Nat) : Int)] 3 (0, 0)) :: wob b c (some ⟨bl, 0, none⟩) ps.length cl bb l.length σ kept.length n :: (slH σ1 100 ((kept.flatMap Smp.cs) ++ Smp.cs ⟨(k : Nat), me, e, v⟩) ++ H0)) (fun w h => ro_mv (L := [_, _, _, _]) w h) ?_
          refine TG.tw false 12 8191 rfl rfl rfl (Val.nilCheck rfl) ?_ (hro := (by first | exact Go.X.ro_nil | (repeat (first | exact Go.X.ro_pre4 | refine Go.X.ro_tail ?_ | refine Go.X.ro_app ?_))))
          refine TG.tk false 13 16383 rfl rfl rfl (Val.fieldAddr rfl fl94_3 sz87 rfl) ?_ (hro := (by first | exact Go.X.ro_nil | (repeat (first | exact Go.X.ro_pre4 | refine Go.X.ro_tail ?_ | refine Go.X.ro_app ?_))))
          refine TG.one 14 (by kernel_rfl) ?_
          refine TP.dz true 32767 none rfl rfl rfl rfl (Does.store (i := 3) rfl rfl rfl sz87 rfl rfl (by first | exact Nat.le_of_ble_eq_true rfl | decide | omega) rfl rfl) ?_
          rintro _ _ ⟨rfl, rfl⟩
          refine ⟨(by first | exact Go.X.ro_nil | (repeat (first | exact Go.X.ro_pre4 | refine Go.X.ro_tail ?_ | refine Go.X.ro_app ?_))), ?_⟩
          refine TG.done (by kernel_rfl) ?_ _
          refine AtX.then ?_
          refine TC.env (E' := [(0, _), (4, _), (7, _), (8, _), (10, _), (11, _), (13, _)]) (Sub.cons rfl (Sub.cons rfl (Sub.cons rfl (Sub.cons rfl (Sub.cons rfl (Sub.cons rfl (Sub.cons rfl (Sub.nil _)))))))) ?_
          refine TC.seq ?_
          refine TC.heap (M' := (b3, .cells #[.int .i64 e] 2 (0, 0)) :: (b2, .cells #[.int .i64 me] 3 (0, 0)) :: (b1, .cells #[.int .i64 ((k : Nat) : Int)] 3 (0, 0)) :: wob b c (some ⟨bl, 0, none⟩) ps.length cl bb l.length σ1 (kept.length + 1) n :: (slH σ1 100 ((kept.flatMap Smp.cs) ++ Smp.cs ⟨(k : Nat), me, e, v⟩) ++ H0)) (fun w h => h) ?_
          refine TC.region ?_
          refine TL.val rfl rfl (Nat.le_of_ble_eq_true rfl) (Val.move rfl) ?_
          refine TL.val rfl rfl (Nat.le_of_ble_eq_true rfl) (Val.nilCheck rfl) ?_
          refine TL.val rfl rfl (Nat.le_of_ble_eq_true rfl) (Val.fieldAddr rfl fl94_4 sz92 rfl) ?_
          refine TL.does (some 70) rfl rfl rfl (Does.callF go52 rfl (aAdd_fn b 29 3 _ _ n 1 (n + 1) _ rfl rfl (w_i64 (by omega) (by omega)))) ?_
          rintro _ _ ⟨rfl, rfl⟩
          refine TL.nil ?_
          refine AtX.then ?_
          refine TC.env (E' := [(4, _), (7, _), (8, _), (10, _), (11, _), (13, _)]) (Sub.cons rfl (Sub.cons rfl (Sub.cons rfl (Sub.cons rfl (Sub.cons rfl (Sub.cons rfl (Sub.nil _))))))) ?_
          refine TC.seq ?_
          refine TC.heap (M' := (b3, .cells #[.int .i64 e] 2 (0, 0)) :: (b2, .cells #[.int .i64 me] 3 (0, 0)) :: (b1, .cells #[.int .i64 ((k : Nat) : Int)] 3 (0, 0)) :: wob b c (some ⟨bl, 0, none⟩) ps.length cl bb l.length σ1 (kept.length + 1) (n + 1) :: (slH σ1 100 ((kept.flatMap Smp.cs) ++ Smp.cs ⟨(k : Nat), me, e, v⟩) ++ H0)) (fun w h => h) ?_
          refine TC.region ?_
          refine TL.val rfl rfl (Nat.le_of_ble_eq_true rfl) (Val.move rfl) ?_
          refine TL.val rfl rfl (Nat.le_of_ble_eq_true rfl) (Val.load 1 rfl ag3 rfl rfl) ?_
          refine TL.val rfl rfl (Nat.le_of_ble_eq_true rfl) (Val.load 0 rfl ag2 rfl rfl) ?_
          refine TL.val rfl rfl (Nat.le_of_ble_eq_true rfl) (Val.move rfl) ?_
          refine TL.does (some 75) rfl rfl rfl (Does.callF go31 rfl (sSample_fn sb _ s (k : Nat) g q me e v _ (get_app4 hs) hm)) ?_
          rintro _ _ ⟨bE, cE, spE, rfl, hcE, rfl⟩
          refine TL.val rfl rfl (Nat.le_of_ble_eq_true rfl) (Val.extract rfl rfl) ?_
          refine TL.val rfl rfl (Nat.le_of_ble_eq_true rfl) (Val.extract rfl rfl) ?_
          refine TL.val rfl rfl (Nat.le_of_ble_eq_true rfl) (Val.assign rfl) ?_
          refine TL.val rfl rfl (Nat.le_of_ble_eq_true rfl) (Val.assign rfl) ?_
          refine TL.nil ?_
          refine AtX.then ?_
          refine TC.env (E' := [(10, _), (11, _)]) (Sub.cons rfl (Sub.cons rfl (Sub.nil _))) ?_
          refine TC.ret2 (fn := Try.f16) (fun _ _ h => h) rfl (RV.tmp rfl) (RV.tmp rfl) (M' := (bE, row 5 (bv (sealB (macKey s (k : Nat) g) ⟨1, (k : Nat), g, q + 1, e, v, me⟩) ++ spE)) :: wob b c (some ⟨bl, 0, none⟩) ps.length cl bb l.length σ1 (kept.length + 1) (n + 1) :: (slH σ1 100 ((kept.flatMap Smp.cs) ++ Smp.cs ⟨(k : Nat), me, e, v⟩) ++ H0.set js (sobj sb s (k : Nat) g (q + 1)))) (fun w h => by rw [set_app4] at h; exact ro_del 1 rfl w (ro_del 1 rfl w (ro_del 1 rfl w h))) ?_
          exact ⟨bE, _, spE, σ1, rfl, hok1, rfl⟩
      · skip
        cases c3

/-- (*quorumite/adverse.World).Sample -/
theorem wSample_bad (b bl cl bb : Nat) (c : Cf) (σ : Sl) (kept : List Smp) (n : Int) (l : List Bool) (ps spl : List Value) (jb jl js : Nat) (H0 : Hp) (hb : H0[jb]? = some (bb, row 4 (l.map Value.bool))) (hl : H0[jl]? = some (bl, row 57 (ps ++ spl))) (hpl : ps.length = l.length) (sb k : Nat) (s g q : Int) (hp : ps[k]? = some (.pointer (some ⟨sb, 0, none⟩))) (hs : H0[js]? = some (sobj sb s (k : Nat) g q)) (hok : slOk σ 4 kept.length (kept.flatMap Smp.cs)) (hkl : kept.length ≤ 1000) (hn : 0 ≤ n ∧ n ≤ 1000000) (me e v : Int) (hm : mayM ⟨1, (k : Nat), g, q + 1, e, v, me⟩ = true) (hx : l[k]? = some true) : FnC Try.prog 16 #[.pointer (some ⟨b, 0, none⟩), .int .i64 ((k : Nat) : Int), .int .i64 me, .int .i64 e, .int .i64 v] (wob b c (some ⟨bl, 0, none⟩) ps.length cl bb l.length σ kept.length n :: (slH σ 100 (kept.flatMap Smp.cs) ++ H0)) (fun u M' => ∃ bE c' sp, u = .tuple #[.slice (some ⟨bE, 0, none⟩) 48 c', .int .i64 0] ∧ M' = (bE, row 5 (bv (sealB (macKey s (k : Nat) g) ⟨1, (k : Nat), g, q + 1, e, v, me⟩) ++ sp)) :: wob b c (some ⟨bl, 0, none⟩) ps.length cl bb l.length σ kept.length (n + 1) :: (slH σ 100 (kept.flatMap Smp.cs) ++ H0.set js (sobj sb s (k : Nat) g (q + 1)))) := by
  have hk2 : k < ps.length := (List.getElem?_eq_some_iff.1 hp).1
  have hRl := rd_row0 hl
  have hRb := rd_rowA hb
  obtain ⟨qk, qw, qg, qs, qe, qme, qv⟩ := mayM_iff.1 hm
  simp only at qk qw qg qs qe qme qv
  have hRk : RdS (slH σ 100 (kept.flatMap Smp.cs) ++ H0) (slA σ) (kept.flatMap Smp.cs) := rdS_opt hok
  refine FnC.intro Try.func16 rfl 78 rfl (by simp) (fun z => ?_)
  refine TC.env (E' := [(0, _), (1, _), (2, _), (3, _), (4, _)]) (Sub.cons rfl (Sub.cons rfl (Sub.cons rfl (Sub.cons rfl (Sub.cons rfl (Sub.nil _)))))) ?_
  refine TC.seq ?_
  refine TC.region ?_
  refine TL.does (some 6) rfl rfl rfl (Does.box rfl rfl) ?_
  rintro _ _ ⟨b1, rfl, rfl⟩
  refine TL.does (some 7) rfl rfl rfl (Does.box rfl rfl) ?_
  rintro _ _ ⟨b2, rfl, rfl⟩
  refine TL.does (some 8) rfl rfl rfl (Does.box rfl rfl) ?_
  rintro _ _ ⟨b3, rfl, rfl⟩
  refine TL.val rfl rfl (Nat.le_of_ble_eq_true rfl) (Val.assign rfl) ?_
  refine TL.val rfl rfl (Nat.le_of_ble_eq_true rfl) (Val.assign rfl) ?_
  refine TL.nil ?_
  refine AtX.then ?_
  refine TC.env (E' := [(0, _), (4, _), (6, _), (7, _), (8, _), (10, _), (11, _)]) (Sub.cons rfl (Sub.cons rfl (Sub.cons rfl (Sub.cons rfl (Sub.cons rfl (Sub.cons rfl (Sub.cons rfl (Sub.nil _)))))))) ?_
  refine TC.seq ?_
  refine TC.seq ?_
  refine TC.region ?_
  refine TL.val rfl rfl (Nat.le_of_ble_eq_true rfl) (Val.move rfl) ?_
  refine TL.val rfl rfl (Nat.le_of_ble_eq_true rfl) (Val.load 2 rfl ag3 rfl rfl) ?_
  refine TL.does (some 16) rfl rfl rfl (Does.callF go46 rfl (has_ok b 3 c _ ps.length cl bb l.length σ kept.length n _ rfl k hk2)) ?_
  rintro _ _ ⟨rfl, rfl⟩
  refine TL.val rfl rfl (Nat.le_of_ble_eq_true rfl) (Val.assign rfl) ?_
  refine TL.nil ?_
  refine AtX.then ?_
  refine TC.env (E' := [(0, _), (4, _), (6, _), (7, _), (8, _), (10, _), (11, _), (12, _)]) (Sub.cons rfl (Sub.cons rfl (Sub.cons rfl (Sub.cons rfl (Sub.cons rfl (Sub.cons rfl (Sub.cons rfl (Sub.cons rfl (Sub.nil _))))))))) ?_
  refine TC.seq ?_
  refine TC.region ?_
  refine TL.val rfl rfl (Nat.le_of_ble_eq_true rfl) (Val.move rfl) ?_
  refine TL.val rfl rfl (Nat.le_of_ble_eq_true rfl) (Val.neqI rfl rfl) ?_
  refine TL.nil ?_
  refine AtX.then ?_
  refine TC.env (E' := [(0, _), (4, _), (6, _), (7, _), (8, _), (10, _), (11, _), (12, _), (18, _)]) (Sub.cons rfl (Sub.cons rfl (Sub.cons rfl (Sub.cons rfl (Sub.cons rfl (Sub.cons rfl (Sub.cons rfl (Sub.cons rfl (Sub.cons rfl (Sub.nil _)))))))))) ?_
  first | refine TC.condP rfl (fun c1 => ?_) (fun c1 => ?_) | refine TC.condN rfl (fun c1 => ?_) (fun c1 => ?_) | refine TC.condB rfl (fun c1 => ?_) (fun c1 => ?_) | refine TC.cond rfl (fun c1 => ?_) (fun c1 => ?_)
  · skip
    exact absurd rfl c1
  · skip
    refine TC.env (E' := [(0, _), (4, _), (6, _), (7, _), (8, _), (10, _), (11, _)]) (Sub.cons rfl (Sub.cons rfl (Sub.cons rfl (Sub.cons rfl (Sub.cons rfl (Sub.cons rfl (Sub.cons rfl (Sub.nil _)))))))) ?_
    refine TC.skip ?_
    refine AtX.then ?_
    refine TC.env (E' := [(0, _), (4, _), (6, _), (7, _), (8, _), (10, _), (11, _)]) (Sub.cons rfl (Sub.cons rfl (Sub.cons rfl (Sub.cons rfl (Sub.cons rfl (Sub.cons rfl (Sub.cons rfl (Sub.nil _)))))))) ?_
    refine TC.seq ?_
    refine TC.drawLM mixed 8 ?_
    refine TA.tk 0 1 rfl rfl rfl (Val.move rfl) ?_
    refine TA.tk 1 3 rfl rfl rfl (Val.nilCheck rfl) ?_
    refine TA.tk 2 7 rfl rfl rfl (Val.fieldAddr rfl fl94_1 sz86 rfl) ?_
    refine TA.tk 3 15 rfl rfl rfl (Val.load 3 rfl ag86 rfl rfl) ?_
    refine TA.tk 4 31 rfl rfl rfl (Val.load 2 rfl ag3 rfl rfl) ?_
    refine TA.tk 5 63 rfl rfl rfl (Val.indexAddr (i := k) (r := k) rfl rfl sl86 sz57 rfl hk2 (by omega)) ?_
    refine TA.tk 6 127 rfl rfl rfl (Val.loadRd (o := 0) (j := k) rfl ag57 (Rd.cons _ (Rd.cons _ (Rd.cons _ (Rd.cons _ (Rd.app _ hRl))))) (by omega) hp) ?_
    refine TA.tk 7 255 rfl rfl rfl (Val.assign rfl) ?_
    refine TA.done (by kernel_rfl) ?_
    refine AtX.then ?_
    refine TC.env (E' := [(0, _), (4, _), (6, _), (7, _), (8, _), (10, _), (11, _), (13, _)]) (Sub.cons rfl (Sub.cons rfl (Sub.cons rfl (Sub.cons rfl (Sub.cons rfl (Sub.cons rfl (Sub.cons rfl (Sub.cons rfl (Sub.nil _))))))))) ?_
    refine TC.seq ?_
    refine TC.seq ?_
    refine TC.drawLM mixed 12 ?_
    refine TA.tk 0 1 rfl rfl rfl (Val.load 2 rfl ag3 rfl rfl) ?_
    refine TA.tk 1 3 rfl rfl rfl (Val.move rfl) ?_
    refine TA.tk 3 11 rfl rfl rfl (Val.move rfl) ?_
    refine TA.tk 6 75 rfl rfl rfl (Val.load 0 rfl ag2 rfl rfl) ?_
    refine TA.tk 7 203 rfl rfl rfl (Val.move rfl) ?_
    refine TA.tk 8 459 rfl rfl rfl (Val.load 1 rfl ag3 rfl rfl) ?_
    refine TA.one 2 (by kernel_rfl) ?_
    refine TO.dz 463 (some 29) rfl rfl rfl rfl (Does.callF go48 rfl (Gen_fn sb _ s (k : Nat) g q _ (get_app4 hs))) ?_
    rintro _ _ ⟨rfl, rfl⟩
    refine roK ?_
    refine TA.one 4 (by kernel_rfl) ?_
    refine TO.dz 479 (some 31) rfl rfl rfl rfl (Does.callF go49 rfl (Seq_fn sb _ s (k : Nat) g q _ (get_app4 hs))) ?_
    rintro _ _ ⟨rfl, rfl⟩
    refine roK ?_
    refine TA.tk 5 511 rfl rfl rfl (Val.add rfl rfl (r := q + 1) (w_i64 (by omega) (by omega))) ?_
    refine TA.tk 9 1023 rfl rfl rfl (Val.buildS pl61 ze61 rfl rfl) ?_
    refine TA.one 10 (by kernel_rfl) ?_
    refine TO.dz 2047 (some 37) rfl rfl rfl rfl (Does.callF go47 rfl (May_true ⟨1, (k : Nat), g, q + 1, e, v, me⟩ _ hm)) ?_
    rintro _ _ ⟨rfl, rfl⟩
    refine roK ?_
    refine TA.tk 11 4095 rfl rfl rfl (Val.not rfl) ?_
    refine TA.done (by kernel_rfl) ?_
    refine AtX.then ?_
    refine TC.env (E' := [(0, _), (4, _), (6, _), (7, _), (8, _), (10, _), (11, _), (13, _), (38, _)]) (Sub.cons rfl (Sub.cons rfl (Sub.cons rfl (Sub.cons rfl (Sub.cons rfl (Sub.cons rfl (Sub.cons rfl (Sub.cons rfl (Sub.cons rfl (Sub.nil _)))))))))) ?_
    first | refine TC.condP rfl (fun c2 => ?_) (fun c2 => ?_) | refine TC.condN rfl (fun c2 => ?_) (fun c2 => ?_) | refine TC.condB rfl (fun c2 => ?_) (fun c2 => ?_) | refine TC.cond rfl (fun c2 => ?_) (fun c2 => ?_)
    · skip
      cases c2
    · skip
      refine TC.env (E' := [(0, _), (4, _), (6, _), (7, _), (8, _), (10, _), (11, _), (13, _)]) (Sub.cons rfl (Sub.cons rfl (Sub.cons rfl (Sub.cons rfl (Sub.cons rfl (Sub.cons rfl (Sub.cons rfl (Sub.cons rfl (Sub.nil _))))))))) ?_
      refine TC.skip ?_
      refine AtX.then ?_
      refine TC.env (E' := [(0, _), (4, _), (6, _), (7, _), (8, _), (10, _), (11, _), (13, _)]) (Sub.cons rfl (Sub.cons rfl (Sub.cons rfl (Sub.cons rfl (Sub.cons rfl (Sub.cons rfl (Sub.cons rfl (Sub.cons rfl (Sub.nil _))))))))) ?_
      refine TC.seq ?_
      refine TC.seq ?_
      refine TC.drawLM mixed 8 ?_
      refine TA.tk 0 1 rfl rfl rfl (Val.move rfl) ?_
      refine TA.tk 1 3 rfl rfl rfl (Val.nilCheck rfl) ?_
      refine TA.tk 2 7 rfl rfl rfl (Val.fieldAddr rfl fl94_2 sz85 rfl) ?_
      refine TA.tk 3 15 rfl rfl rfl (Val.load 3 rfl ag85 rfl rfl) ?_
      refine TA.tk 4 31 rfl rfl rfl (Val.load 2 rfl ag3 rfl rfl) ?_
      refine TA.tk 5 63 rfl rfl rfl (Val.indexAddr (i := k) (r := k) rfl rfl sl85 sz4 rfl (by omega) (by omega)) ?_
      refine TA.tk 6 127 rfl rfl rfl (Val.loadRd (o := 0) (j := k) (v := .bool true) rfl ag4 (Rd.cons _ (Rd.cons _ (Rd.cons _ (Rd.cons _ (Rd.app _ hRb))))) (by omega) (map_get hx)) ?_
      refine TA.tk 7 255 rfl rfl rfl (Val.not rfl) ?_
      refine TA.done (by kernel_rfl) ?_
      refine AtX.then ?_
      refine TC.env (E' := [(0, _), (4, _), (6, _), (7, _), (8, _), (10, _), (11, _), (13, _), (46, _)]) (Sub.cons rfl (Sub.cons rfl (Sub.cons rfl (Sub.cons rfl (Sub.cons rfl (Sub.cons rfl (Sub.cons rfl (Sub.cons rfl (Sub.cons rfl (Sub.nil _)))))))))) ?_
      first | refine TC.condP rfl (fun c3 => ?_) (fun c3 => ?_) | refine TC.condN rfl (fun c3 => ?_) (fun c3 => ?_) | refine TC.condB rfl (fun c3 => ?_) (fun c3 => ?_) | refine TC.cond rfl (fun c3 => ?_) (fun c3 => ?_)
      · skip
        cases c3
      · skip
        refine TC.env (E' := [(0, _), (4, _), (7, _), (8, _), (10, _), (11, _), (13, _)]) (Sub.cons rfl (Sub.cons rfl (Sub.cons rfl (Sub.cons rfl (Sub.cons rfl (Sub.cons rfl (Sub.cons rfl (Sub.nil _)))))))) ?_
        refine TC.skip ?_
        refine AtX.then ?_
        refine TC.env (E' := [(0, _), (4, _), (7, _), (8, _), (10, _), (11, _), (13, _)]) (Sub.cons rfl (Sub.cons rfl (Sub.cons rfl (Sub.cons rfl (Sub.cons rfl (Sub.cons rfl (Sub.cons rfl (Sub.nil _)))))))) ?_
        refine TC.seq ?_
        refine TC.region ?_
        refine TL.val rfl rfl (Nat.le_of_ble_eq_true rfl) (Val.move rfl) ?_
        refine TL.val rfl rfl (Nat.le_of_ble_eq_true rfl) (Val.nilCheck rfl) ?_
        refine TL.val rfl rfl (Nat.le_of_ble_eq_true rfl) (Val.fieldAddr rfl fl94_4 sz92 rfl) ?_
        refine TL.does (some 70) rfl rfl rfl (Does.callF go52 rfl (aAdd_fn b 29 3 _ _ n 1 (n + 1) _ rfl rfl (w_i64 (by omega) (by omega)))) ?_
        rintro _ _ ⟨rfl, rfl⟩
        refine TL.nil ?_
        refine AtX.then ?_
        refine TC.env (E' := [(4, _), (7, _), (8, _), (10, _), (11, _), (13, _)]) (Sub.cons rfl (Sub.cons rfl (Sub.cons rfl (Sub.cons rfl (Sub.cons rfl (Sub.cons rfl (Sub.nil _))))))) ?_
        refine TC.seq ?_
        refine TC.heap (M' := (b3, .cells #[.int .i64 e] 2 (0, 0)) :: (b2, .cells #[.int .i64 me] 3 (0, 0)) :: (b1, .cells #[.int .i64 ((k : Nat) : Int)] 3 (0, 0)) :: wob b c (some ⟨bl, 0, none⟩) ps.length cl bb l.length σ kept.length (n + 1) :: (slH σ 100 (kept.flatMap Smp.cs) ++ H0)) (fun w h => h) ?_
        refine TC.region ?_
        refine TL.val rfl rfl (Nat.le_of_ble_eq_true rfl) (Val.move rfl) ?_
        refine TL.val rfl rfl (Nat.le_of_ble_eq_true rfl) (Val.load 1 rfl ag3 rfl rfl) ?_
        refine TL.val rfl rfl (Nat.le_of_ble_eq_true rfl) (Val.load 0 rfl ag2 rfl rfl) ?_
        refine TL.val rfl rfl (Nat.le_of_ble_eq_true rfl) (Val.move rfl) ?_
        refine TL.does (some 75) rfl rfl rfl (Does.callF go31 rfl (sSample_fn sb _ s (k : Nat) g q me e v _ (get_app4 hs) hm)) ?_
        rintro _ _ ⟨bE, cE, spE, rfl, hcE, rfl⟩
        refine TL.val rfl rfl (Nat.le_of_ble_eq_true rfl) (Val.extract rfl rfl) ?_
        refine TL.val rfl rfl (Nat.le_of_ble_eq_true rfl) (Val.extract rfl rfl) ?_
        refine TL.val rfl rfl (Nat.le_of_ble_eq_true rfl) (Val.assign rfl) ?_
        refine TL.val rfl rfl (Nat.le_of_ble_eq_true rfl) (Val.assign rfl) ?_
        refine TL.nil ?_
        refine AtX.then ?_
        refine TC.env (E' := [(10, _), (11, _)]) (Sub.cons rfl (Sub.cons rfl (Sub.nil _))) ?_
        refine TC.ret2 (fn := Try.f16) (fun _ _ h => h) rfl (RV.tmp rfl) (RV.tmp rfl) (M' := (bE, row 5 (bv (sealB (macKey s (k : Nat) g) ⟨1, (k : Nat), g, q + 1, e, v, me⟩) ++ spE)) :: wob b c (some ⟨bl, 0, none⟩) ps.length cl bb l.length σ kept.length (n + 1) :: (slH σ 100 (kept.flatMap Smp.cs) ++ H0.set js (sobj sb s (k : Nat) g (q + 1)))) (fun w h => by rw [set_app4] at h; exact ro_del 1 rfl w (ro_del 1 rfl w (ro_del 1 rfl w h))) ?_
        exact ⟨bE, _, spE, rfl, rfl⟩

/-- (*quorumite/adverse.World).Sample -/
theorem wSample_twice (b bl cl bb : Nat) (c : Cf) (σ : Sl) (kept : List Smp) (n : Int) (l : List Bool) (ps spl : List Value) (jb jl js : Nat) (H0 : Hp) (hb : H0[jb]? = some (bb, row 4 (l.map Value.bool))) (hl : H0[jl]? = some (bl, row 57 (ps ++ spl))) (hpl : ps.length = l.length) (sb k : Nat) (s g q : Int) (hp : ps[k]? = some (.pointer (some ⟨sb, 0, none⟩))) (hs : H0[js]? = some (sobj sb s (k : Nat) g q)) (hok : slOk σ 4 kept.length (kept.flatMap Smp.cs)) (hkl : kept.length ≤ 1000) (hn : 0 ≤ n ∧ n ≤ 1000000) (me e v : Int) (hm : mayM ⟨1, (k : Nat), g, q + 1, e, v, me⟩ = true) (hx : l[k]? = some false) (hno : kept.any (fun x => sameS x (k : Nat) me e) = true) : FnC Try.prog 16 #[.pointer (some ⟨b, 0, none⟩), .int .i64 ((k : Nat) : Int), .int .i64 me, .int .i64 e, .int .i64 v] (wob b c (some ⟨bl, 0, none⟩) ps.length cl bb l.length σ kept.length n :: (slH σ 100 (kept.flatMap Smp.cs) ++ H0)) (fun u M' => u = .tuple #[.slice none 0 0, .int .i64 8] ∧ (wob b c (some ⟨bl, 0, none⟩) ps.length cl bb l.length σ kept.length n :: (slH σ 100 (kept.flatMap Smp.cs) ++ H0)) = M') := by
  have hk2 : k < ps.length := (List.getElem?_eq_some_iff.1 hp).1
  have hRl := rd_row0 hl
  have hRb := rd_rowA hb
  obtain ⟨qk, qw, qg, qs, qe, qme, qv⟩ := mayM_iff.1 hm
  simp only at qk qw qg qs qe qme qv
  have hRk : RdS (slH σ 100 (kept.flatMap Smp.cs) ++ H0) (slA σ) (kept.flatMap Smp.cs) := rdS_opt hok
  refine FnC.intro Try.func16 rfl 78 rfl (by simp) (fun z => ?_)
  refine TC.env (E' := [(0, _), (1, _), (2, _), (3, _), (4, _)]) (Sub.cons rfl (Sub.cons rfl (Sub.cons rfl (Sub.cons rfl (Sub.cons rfl (Sub.nil _)))))) ?_
  refine TC.seq ?_
  refine TC.region ?_
  refine TL.does (some 6) rfl rfl rfl (Does.box rfl rfl) ?_
  rintro _ _ ⟨b1, rfl, rfl⟩
  refine TL.does (some 7) rfl rfl rfl (Does.box rfl rfl) ?_
  rintro _ _ ⟨b2, rfl, rfl⟩
  refine TL.does (some 8) rfl rfl rfl (Does.box rfl rfl) ?_
  rintro _ _ ⟨b3, rfl, rfl⟩
  refine TL.val rfl rfl (Nat.le_of_ble_eq_true rfl) (Val.assign rfl) ?_
  refine TL.val rfl rfl (Nat.le_of_ble_eq_true rfl) (Val.assign rfl) ?_
  refine TL.nil ?_
  refine AtX.then ?_
  refine TC.env (E' := [(0, _), (4, _), (6, _), (7, _), (8, _), (10, _), (11, _)]) (Sub.cons rfl (Sub.cons rfl (Sub.cons rfl (Sub.cons rfl (Sub.cons rfl (Sub.cons rfl (Sub.cons rfl (Sub.nil _)))))))) ?_
  refine TC.seq ?_
  refine TC.seq ?_
  refine TC.region ?_
  refine TL.val rfl rfl (Nat.le_of_ble_eq_true rfl) (Val.move rfl) ?_
  refine TL.val rfl rfl (Nat.le_of_ble_eq_true rfl) (Val.load 2 rfl ag3 rfl rfl) ?_
  refine TL.does (some 16) rfl rfl rfl (Does.callF go46 rfl (has_ok b 3 c _ ps.length cl bb l.length σ kept.length n _ rfl k hk2)) ?_
  rintro _ _ ⟨rfl, rfl⟩
  refine TL.val rfl rfl (Nat.le_of_ble_eq_true rfl) (Val.assign rfl) ?_
  refine TL.nil ?_
  refine AtX.then ?_
  refine TC.env (E' := [(0, _), (4, _), (6, _), (7, _), (8, _), (10, _), (11, _), (12, _)]) (Sub.cons rfl (Sub.cons rfl (Sub.cons rfl (Sub.cons rfl (Sub.cons rfl (Sub.cons rfl (Sub.cons rfl (Sub.cons rfl (Sub.nil _))))))))) ?_
  refine TC.seq ?_
  refine TC.region ?_
  refine TL.val rfl rfl (Nat.le_of_ble_eq_true rfl) (Val.move rfl) ?_
  refine TL.val rfl rfl (Nat.le_of_ble_eq_true rfl) (Val.neqI rfl rfl) ?_
  refine TL.nil ?_
  refine AtX.then ?_
  refine TC.env (E' := [(0, _), (4, _), (6, _), (7, _), (8, _), (10, _), (11, _), (12, _), (18, _)]) (Sub.cons rfl (Sub.cons rfl (Sub.cons rfl (Sub.cons rfl (Sub.cons rfl (Sub.cons rfl (Sub.cons rfl (Sub.cons rfl (Sub.cons rfl (Sub.nil _)))))))))) ?_
  first | refine TC.condP rfl (fun c1 => ?_) (fun c1 => ?_) | refine TC.condN rfl (fun c1 => ?_) (fun c1 => ?_) | refine TC.condB rfl (fun c1 => ?_) (fun c1 => ?_) | refine TC.cond rfl (fun c1 => ?_) (fun c1 => ?_)
  · skip
    exact absurd rfl c1
  · skip
    refine TC.env (E' := [(0, _), (4, _), (6, _), (7, _), (8, _), (10, _), (11, _)]) (Sub.cons rfl (Sub.cons rfl (Sub.cons rfl (Sub.cons rfl (Sub.cons rfl (Sub.cons rfl (Sub.cons rfl (Sub.nil _)))))))) ?_
    refine TC.skip ?_
    refine AtX.then ?_
    refine TC.env (E' := [(0, _), (4, _), (6, _), (7, _), (8, _), (10, _), (11, _)]) (Sub.cons rfl (Sub.cons rfl (Sub.cons rfl (Sub.cons rfl (Sub.cons rfl (Sub.cons rfl (Sub.cons rfl (Sub.nil _)))))))) ?_
    refine TC.seq ?_
    refine TC.drawLM mixed 8 ?_
    refine TA.tk 0 1 rfl rfl rfl (Val.move rfl) ?_
    refine TA.tk 1 3 rfl rfl rfl (Val.nilCheck rfl) ?_
    refine TA.tk 2 7 rfl rfl rfl (Val.fieldAddr rfl fl94_1 sz86 rfl) ?_
    refine TA.tk 3 15 rfl rfl rfl (Val.load 3 rfl ag86 rfl rfl) ?_
    refine TA.tk 4 31 rfl rfl rfl (Val.load 2 rfl ag3 rfl rfl) ?_
    refine TA.tk 5 63 rfl rfl rfl (Val.indexAddr (i := k) (r := k) rfl rfl sl86 sz57 rfl hk2 (by omega)) ?_
    refine TA.tk 6 127 rfl rfl rfl (Val.loadRd (o := 0) (j := k) rfl ag57 (Rd.cons _ (Rd.cons _ (Rd.cons _ (Rd.cons _ (Rd.app _ hRl))))) (by omega) hp) ?_
    refine TA.tk 7 255 rfl rfl rfl (Val.assign rfl) ?_
    refine TA.done (by kernel_rfl) ?_
    refine AtX.then ?_
    refine TC.env (E' := [(0, _), (4, _), (6, _), (7, _), (8, _), (10, _), (11, _), (13, _)]) (Sub.cons rfl (Sub.cons rfl (Sub.cons rfl (Sub.cons rfl (Sub.cons rfl (Sub.cons rfl (Sub.cons rfl (Sub.cons rfl (Sub.nil _))))))))) ?_
    refine TC.seq ?_
    refine TC.seq ?_
    refine TC.drawLM mixed 12 ?_
    refine TA.tk 0 1 rfl rfl rfl (Val.load 2 rfl ag3 rfl rfl) ?_
    refine TA.tk 1 3 rfl rfl rfl (Val.move rfl) ?_
    refine TA.tk 3 11 rfl rfl rfl (Val.move rfl) ?_
    refine TA.tk 6 75 rfl rfl rfl (Val.load 0 rfl ag2 rfl rfl) ?_
    refine TA.tk 7 203 rfl rfl rfl (Val.move rfl) ?_
    refine TA.tk 8 459 rfl rfl rfl (Val.load 1 rfl ag3 rfl rfl) ?_
    refine TA.one 2 (by kernel_rfl) ?_
    refine TO.dz 463 (some 29) rfl rfl rfl rfl (Does.callF go48 rfl (Gen_fn sb _ s (k : Nat) g q _ (get_app4 hs))) ?_
    rintro _ _ ⟨rfl, rfl⟩
    refine roK ?_
    refine TA.one 4 (by kernel_rfl) ?_
    refine TO.dz 479 (some 31) rfl rfl rfl rfl (Does.callF go49 rfl (Seq_fn sb _ s (k : Nat) g q _ (get_app4 hs))) ?_
    rintro _ _ ⟨rfl, rfl⟩
    refine roK ?_
    refine TA.tk 5 511 rfl rfl rfl (Val.add rfl rfl (r := q + 1) (w_i64 (by omega) (by omega))) ?_
    refine TA.tk 9 1023 rfl rfl rfl (Val.buildS pl61 ze61 rfl rfl) ?_
    refine TA.one 10 (by kernel_rfl) ?_
    refine TO.dz 2047 (some 37) rfl rfl rfl rfl (Does.callF go47 rfl (May_true ⟨1, (k : Nat), g, q + 1, e, v, me⟩ _ hm)) ?_
    rintro _ _ ⟨rfl, rfl⟩
    refine roK ?_
    refine TA.tk 11 4095 rfl rfl rfl (Val.not rfl) ?_
    refine TA.done (by kernel_rfl) ?_
    refine AtX.then ?_
    refine TC.env (E' := [(0, _), (4, _), (6, _), (7, _), (8, _), (10, _), (11, _), (13, _), (38, _)]) (Sub.cons rfl (Sub.cons rfl (Sub.cons rfl (Sub.cons rfl (Sub.cons rfl (Sub.cons rfl (Sub.cons rfl (Sub.cons rfl (Sub.cons rfl (Sub.nil _)))))))))) ?_
    first | refine TC.condP rfl (fun c2 => ?_) (fun c2 => ?_) | refine TC.condN rfl (fun c2 => ?_) (fun c2 => ?_) | refine TC.condB rfl (fun c2 => ?_) (fun c2 => ?_) | refine TC.cond rfl (fun c2 => ?_) (fun c2 => ?_)
    · skip
      cases c2
    · skip
      refine TC.env (E' := [(0, _), (4, _), (6, _), (7, _), (8, _), (10, _), (11, _), (13, _)]) (Sub.cons rfl (Sub.cons rfl (Sub.cons rfl (Sub.cons rfl (Sub.cons rfl (Sub.cons rfl (Sub.cons rfl (Sub.cons rfl (Sub.nil _))))))))) ?_
      refine TC.skip ?_
      refine AtX.then ?_
      refine TC.env (E' := [(0, _), (4, _), (6, _), (7, _), (8, _), (10, _), (11, _), (13, _)]) (Sub.cons rfl (Sub.cons rfl (Sub.cons rfl (Sub.cons rfl (Sub.cons rfl (Sub.cons rfl (Sub.cons rfl (Sub.cons rfl (Sub.nil _))))))))) ?_
      refine TC.seq ?_
      refine TC.seq ?_
      refine TC.drawLM mixed 8 ?_
      refine TA.tk 0 1 rfl rfl rfl (Val.move rfl) ?_
      refine TA.tk 1 3 rfl rfl rfl (Val.nilCheck rfl) ?_
      refine TA.tk 2 7 rfl rfl rfl (Val.fieldAddr rfl fl94_2 sz85 rfl) ?_
      refine TA.tk 3 15 rfl rfl rfl (Val.load 3 rfl ag85 rfl rfl) ?_
      refine TA.tk 4 31 rfl rfl rfl (Val.load 2 rfl ag3 rfl rfl) ?_
      refine TA.tk 5 63 rfl rfl rfl (Val.indexAddr (i := k) (r := k) rfl rfl sl85 sz4 rfl (by omega) (by omega)) ?_
      refine TA.tk 6 127 rfl rfl rfl (Val.loadRd (o := 0) (j := k) (v := .bool false) rfl ag4 (Rd.cons _ (Rd.cons _ (Rd.cons _ (Rd.cons _ (Rd.app _ hRb))))) (by omega) (map_get hx)) ?_
      refine TA.tk 7 255 rfl rfl rfl (Val.not rfl) ?_
      refine TA.done (by kernel_rfl) ?_
      refine AtX.then ?_
      refine TC.env (E' := [(0, _), (4, _), (6, _), (7, _), (8, _), (10, _), (11, _), (13, _), (46, _)]) (Sub.cons rfl (Sub.cons rfl (Sub.cons rfl (Sub.cons rfl (Sub.cons rfl (Sub.cons rfl (Sub.cons rfl (Sub.cons rfl (Sub.cons rfl (Sub.nil _)))))))))) ?_
      first | refine TC.condP rfl (fun c3 => ?_) (fun c3 => ?_) | refine TC.condN rfl (fun c3 => ?_) (fun c3 => ?_) | refine TC.condB rfl (fun c3 => ?_) (fun c3 => ?_) | refine TC.cond rfl (fun c3 => ?_) (fun c3 => ?_)
      · skip
        refine TC.env (E' := [(0, _), (4, _), (6, _), (7, _), (8, _), (10, _), (11, _), (13, _)]) (Sub.cons rfl (Sub.cons rfl (Sub.cons rfl (Sub.cons rfl (Sub.cons rfl (Sub.cons rfl (Sub.cons rfl (Sub.cons rfl (Sub.nil _))))))))) ?_
        refine TC.seq ?_
        refine TC.seq ?_
        refine TC.region ?_
        refine TL.val rfl rfl (Nat.le_of_ble_eq_true rfl) (Val.move rfl) ?_
        refine TL.val rfl rfl (Nat.le_of_ble_eq_true rfl) (Val.nilCheck rfl) ?_
        refine TL.val rfl rfl (Nat.le_of_ble_eq_true rfl) (Val.fieldAddr rfl fl94_3 sz87 rfl) ?_
        refine TL.val rfl rfl (Nat.le_of_ble_eq_true rfl) (Val.load 3 rfl ag87 rfl rfl) ?_
        refine TL.val rfl rfl (Nat.le_of_ble_eq_true rfl) (Val.makeFunc rfl rfl) ?_
        refine TL.does (some 52) rfl rfl rfl (Does.callF go50 rfl (Contains_fn b1 b2 b3 2 1 0 (k : Nat) me e _ rfl rfl rfl kept _ _ _ ((((hRk.cons _).cons _).cons _).cons _) rfl hkl)) ?_
        rintro _ _ ⟨rfl, rfl⟩
        refine TL.nil ?_
        refine AtX.then ?_
        refine TC.env (E' := [(0, _), (4, _), (6, _), (7, _), (8, _), (10, _), (11, _), (13, _), (52, _)]) (Sub.cons rfl (Sub.cons rfl (Sub.cons rfl (Sub.cons rfl (Sub.cons rfl (Sub.cons rfl (Sub.cons rfl (Sub.cons rfl (Sub.cons rfl (Sub.nil _)))))))))) ?_
        first | refine TC.condP rfl (fun c4 => ?_) (fun c4 => ?_) | refine TC.condN rfl (fun c4 => ?_) (fun c4 => ?_) | refine TC.condB rfl (fun c4 => ?_) (fun c4 => ?_) | refine TC.cond rfl (fun c4 => ?_) (fun c4 => ?_)
        · skip
          refine TC.env (E' := [(0, _), (4, _), (6, _), (7, _), (8, _), (10, _), (11, _), (13, _)]) (Sub.cons rfl (Sub.cons rfl (Sub.cons rfl (Sub.cons rfl (Sub.cons rfl (Sub.cons rfl (Sub.cons rfl (Sub.cons rfl (Sub.nil _))))))))) ?_
          refine TC.seq ?_
          refine TC.region ?_
          refine TL.val rfl rfl (Nat.le_of_ble_eq_true rfl) (Val.assign rfl) ?_
          refine TL.val rfl rfl (Nat.le_of_ble_eq_true rfl) (Val.assign rfl) ?_
          refine TL.nil ?_
          refine AtX.then ?_
          refine TC.env (E' := [(0, _), (4, _), (6, _), (7, _), (8, _), (10, _), (11, _), (13, _)]) (Sub.cons rfl (Sub.cons rfl (Sub.cons rfl (Sub.cons rfl (Sub.cons rfl (Sub.cons rfl (Sub.cons rfl (Sub.cons rfl (Sub.nil _))))))))) ?_
          refine TC.ret2 (fn := Try.f16) (fun _ _ h => h) rfl (RV.tmp rfl) (RV.tmp rfl) (M' := (wob b c (some ⟨bl, 0, none⟩) ps.length cl bb l.length σ kept.length n :: (slH σ 100 (kept.flatMap Smp.cs) ++ H0))) (by repeat (first | exact ro_refl | exact ro_pre | refine ro_tail ?_ | refine ro_app ?_)) ?_
          exact ⟨rfl, rfl⟩
        · skip
          (rw [hno] at c4; cases c4)
      · skip
        cases c3

/-- (*quorumite/adverse.World).Sample -/
theorem wSample_no (b i : Nat) (c : Cf) (A : Option Addr) (nl cl bb N : Nat) (σ : Sl) (nk : Nat) (n : Int) (H : Hp) (hi : H[i]? = some (wob b c A nl cl bb N σ nk n)) (k me e v : Int) (hk : k < 0 ∨ nl ≤ k) : FnC Try.prog 16 #[.pointer (some ⟨b, 0, none⟩), .int .i64 k, .int .i64 me, .int .i64 e, .int .i64 v] H (fun u M' => u = .tuple #[.slice none 0 0, .int .i64 3] ∧ H = M') := by
  refine FnC.intro Try.func16 rfl 78 rfl (by simp) (fun z => ?_)
  refine TC.env (E' := [(0, _), (1, _), (2, _), (3, _), (4, _)]) (Sub.cons rfl (Sub.cons rfl (Sub.cons rfl (Sub.cons rfl (Sub.cons rfl (Sub.nil _)))))) ?_
  refine TC.seq ?_
  refine TC.region ?_
  refine TL.does (some 6) rfl rfl rfl (Does.box rfl rfl) ?_
  rintro _ _ ⟨b1, rfl, rfl⟩
  refine TL.does (some 7) rfl rfl rfl (Does.box rfl rfl) ?_
  rintro _ _ ⟨b2, rfl, rfl⟩
  refine TL.does (some 8) rfl rfl rfl (Does.box rfl rfl) ?_
  rintro _ _ ⟨b3, rfl, rfl⟩
  refine TL.val rfl rfl (Nat.le_of_ble_eq_true rfl) (Val.assign rfl) ?_
  refine TL.val rfl rfl (Nat.le_of_ble_eq_true rfl) (Val.assign rfl) ?_
  refine TL.nil ?_
  refine AtX.then ?_
  refine TC.env (E' := [(0, _), (4, _), (6, _), (7, _), (8, _), (10, _), (11, _)]) (Sub.cons rfl (Sub.cons rfl (Sub.cons rfl (Sub.cons rfl (Sub.cons rfl (Sub.cons rfl (Sub.cons rfl (Sub.nil _)))))))) ?_
  refine TC.seq ?_
  refine TC.seq ?_
  refine TC.region ?_
  refine TL.val rfl rfl (Nat.le_of_ble_eq_true rfl) (Val.move rfl) ?_
  refine TL.val rfl rfl (Nat.le_of_ble_eq_true rfl) (Val.load 2 rfl ag3 rfl rfl) ?_
  refine TL.does (some 16) rfl rfl rfl (Does.callF go46 rfl (has_no b (i + 3) c A nl cl bb N σ nk n _ hi k hk)) ?_
  rintro _ _ ⟨rfl, rfl⟩
  refine TL.val rfl rfl (Nat.le_of_ble_eq_true rfl) (Val.assign rfl) ?_
  refine TL.nil ?_
  refine AtX.then ?_
  refine TC.env (E' := [(0, _), (4, _), (6, _), (7, _), (8, _), (10, _), (11, _), (12, _)]) (Sub.cons rfl (Sub.cons rfl (Sub.cons rfl (Sub.cons rfl (Sub.cons rfl (Sub.cons rfl (Sub.cons rfl (Sub.cons rfl (Sub.nil _))))))))) ?_
  refine TC.seq ?_
  refine TC.region ?_
  refine TL.val rfl rfl (Nat.le_of_ble_eq_true rfl) (Val.move rfl) ?_
  refine TL.val rfl rfl (Nat.le_of_ble_eq_true rfl) (Val.neqI rfl rfl) ?_
  refine TL.nil ?_
  refine AtX.then ?_
  refine TC.env (E' := [(0, _), (4, _), (6, _), (7, _), (8, _), (10, _), (11, _), (12, _), (18, _)]) (Sub.cons rfl (Sub.cons rfl (Sub.cons rfl (Sub.cons rfl (Sub.cons rfl (Sub.cons rfl (Sub.cons rfl (Sub.cons rfl (Sub.cons rfl (Sub.nil _)))))))))) ?_
  first | refine TC.condP rfl (fun c1 => ?_) (fun c1 => ?_) | refine TC.condN rfl (fun c1 => ?_) (fun c1 => ?_) | refine TC.condB rfl (fun c1 => ?_) (fun c1 => ?_) | refine TC.cond rfl (fun c1 => ?_) (fun c1 => ?_)
  · skip
    refine TC.env (E' := [(0, _), (4, _), (6, _), (7, _), (8, _), (10, _), (11, _), (12, _)]) (Sub.cons rfl (Sub.cons rfl (Sub.cons rfl (Sub.cons rfl (Sub.cons rfl (Sub.cons rfl (Sub.cons rfl (Sub.cons rfl (Sub.nil _))))))))) ?_
    refine TC.seq ?_
    refine TC.region ?_
    refine TL.val rfl rfl (Nat.le_of_ble_eq_true rfl) (Val.move rfl) ?_
    refine TL.val rfl rfl (Nat.le_of_ble_eq_true rfl) (Val.assign rfl) ?_
    refine TL.val rfl rfl (Nat.le_of_ble_eq_true rfl) (Val.assign rfl) ?_
    refine TL.nil ?_
    refine AtX.then ?_
    refine TC.env (E' := [(0, _), (4, _), (6, _), (7, _), (8, _), (10, _), (11, _)]) (Sub.cons rfl (Sub.cons rfl (Sub.cons rfl (Sub.cons rfl (Sub.cons rfl (Sub.cons rfl (Sub.cons rfl (Sub.nil _)))))))) ?_
    refine TC.ret2 (fn := Try.f16) (fun _ _ h => h) rfl (RV.tmp rfl) (RV.tmp rfl) (M' := H) (by repeat (first | exact ro_refl | exact ro_pre | refine ro_tail ?_ | refine ro_app ?_)) ?_
    exact ⟨rfl, rfl⟩
  · skip
    (exfalso; simp at c1)

end Go.Proofs.Ytphoapajlcaoeaa
/- walks -/
set_option linter.unusedVariables false
set_option linter.unusedSimpArgs false
set_option maxRecDepth 100000
set_option maxHeartbeats 4000000
namespace Go.Proofs.Ytphoapajlcaoeaa
open Go Go.X
/-- (*quorumite/adverse.World).Forge -/
theorem Forge_no (b i j : Nat) (c : Cf) (A : Option Addr) (nl cl bb : Nat) (σ : Sl) (nk : Nat) (n : Int) (l : List Bool) (H : Hp) (hi : H[i]? = some (wob b c A nl cl bb l.length σ nk n)) (hj : H[j]? = some (bb, row 4 (l.map Value.bool))) (hnl : nl = l.length) (k : Nat) (hk : k < nl) (hx : l[k]? = some false) (me e v sq gn : Int) : FnC Try.prog 23 #[.pointer (some ⟨b, 0, none⟩), .int .i64 ((k : Nat) : Int), .int .i64 me, .int .i64 e, .int .i64 v, .int .i64 sq, .int .i64 gn] H (fun u M' => u = .tuple #[.slice none 0 0, .int .i64 3] ∧ H = M') := by
  have hR := rd_rowA hj
  have hlt : i < H.length := (List.getElem?_eq_some_iff.1 hi).1
  refine FnC.intro Try.func23 rfl 53 rfl (by simp) (fun z => ?_)
  refine TC.env (E' := [(0, _), (1, _), (2, _), (3, _), (4, _), (5, _), (6, _)]) (Sub.cons rfl (Sub.cons rfl (Sub.cons rfl (Sub.cons rfl (Sub.cons rfl (Sub.cons rfl (Sub.cons rfl (Sub.nil _)))))))) ?_
  refine TC.seq ?_
  refine TC.region ?_
  refine TL.val rfl rfl (Nat.le_of_ble_eq_true rfl) (Val.assign rfl) ?_
  refine TL.val rfl rfl (Nat.le_of_ble_eq_true rfl) (Val.assign rfl) ?_
  refine TL.nil ?_
  refine AtX.then ?_
  refine TC.seq ?_
  refine TC.seq ?_
  refine TC.region ?_
  refine TL.val rfl rfl (Nat.le_of_ble_eq_true rfl) (Val.move rfl) ?_
  refine TL.val rfl rfl (Nat.le_of_ble_eq_true rfl) (Val.move rfl) ?_
  refine TL.does (some 19) rfl rfl rfl (Does.callF go46 rfl (has_ok b i c A nl cl bb l.length σ nk n _ hi k hk)) ?_
  rintro _ _ ⟨rfl, rfl⟩
  refine TL.val rfl rfl (Nat.le_of_ble_eq_true rfl) (Val.assign rfl) ?_
  refine TL.nil ?_
  refine AtX.then ?_
  refine TC.env (E' := [(0, _), (1, _), (2, _), (3, _), (4, _), (5, _), (6, _), (14, _), (15, _), (16, _)]) (Sub.cons rfl (Sub.cons rfl (Sub.cons rfl (Sub.cons rfl (Sub.cons rfl (Sub.cons rfl (Sub.cons rfl (Sub.cons rfl (Sub.cons rfl (Sub.cons rfl (Sub.nil _))))))))))) ?_
  refine TC.seq ?_
  refine TC.region ?_
  refine TL.val rfl rfl (Nat.le_of_ble_eq_true rfl) (Val.move rfl) ?_
  refine TL.val rfl rfl (Nat.le_of_ble_eq_true rfl) (Val.neqI rfl rfl) ?_
  refine TL.nil ?_
  refine AtX.then ?_
  refine TC.env (E' := [(0, _), (1, _), (2, _), (3, _), (4, _), (5, _), (6, _), (14, _), (15, _), (16, _), (21, _)]) (Sub.cons rfl (Sub.cons rfl (Sub.cons rfl (Sub.cons rfl (Sub.cons rfl (Sub.cons rfl (Sub.cons rfl (Sub.cons rfl (Sub.cons rfl (Sub.cons rfl (Sub.cons rfl (Sub.nil _)))))))))))) ?_
  first | refine TC.condP rfl (fun c1 => ?_) (fun c1 => ?_) | refine TC.condN rfl (fun c1 => ?_) (fun c1 => ?_) | refine TC.condB rfl (fun c1 => ?_) (fun c1 => ?_) | refine TC.cond rfl (fun c1 => ?_) (fun c1 => ?_)
  · skip
    exact absurd rfl c1
  · skip
    refine TC.env (E' := [(0, _), (1, _), (2, _), (3, _), (4, _), (5, _), (6, _), (14, _), (15, _)]) (Sub.cons rfl (Sub.cons rfl (Sub.cons rfl (Sub.cons rfl (Sub.cons rfl (Sub.cons rfl (Sub.cons rfl (Sub.cons rfl (Sub.cons rfl (Sub.nil _)))))))))) ?_
    refine TC.skip ?_
    refine AtX.then ?_
    refine TC.env (E' := [(0, _), (1, _), (2, _), (3, _), (4, _), (5, _), (6, _), (14, _), (15, _)]) (Sub.cons rfl (Sub.cons rfl (Sub.cons rfl (Sub.cons rfl (Sub.cons rfl (Sub.cons rfl (Sub.cons rfl (Sub.cons rfl (Sub.cons rfl (Sub.nil _)))))))))) ?_
    refine TC.seq ?_
    refine TC.seq ?_
    refine TC.region ?_
    refine TL.val rfl rfl (Nat.le_of_ble_eq_true rfl) (Val.move rfl) ?_
    refine TL.val rfl rfl (Nat.le_of_ble_eq_true rfl) (Val.nilCheck rfl) ?_
    refine TL.val rfl rfl (Nat.le_of_ble_eq_true rfl) (Val.fieldAddr rfl fl94_2 sz85 rfl) ?_
    refine TL.val rfl rfl (Nat.le_of_ble_eq_true rfl) (Val.load i rfl ag85 hi rfl) ?_
    refine TL.val rfl rfl (Nat.le_of_ble_eq_true rfl) (Val.move rfl) ?_
    refine TL.val rfl rfl (Nat.le_of_ble_eq_true rfl) (Val.indexAddr (i := k) (r := k) rfl rfl sl85 sz4 rfl (by omega) (by omega)) ?_
    refine TL.val rfl rfl (Nat.le_of_ble_eq_true rfl) (Val.loadRd (o := 0) (j := k) (v := .bool false) rfl ag4 hR (by omega) (map_get hx)) ?_
    refine TL.val rfl rfl (Nat.le_of_ble_eq_true rfl) (Val.not rfl) ?_
    refine TL.nil ?_
    refine AtX.then ?_
    refine TC.env (E' := [(0, _), (1, _), (2, _), (3, _), (4, _), (5, _), (6, _), (14, _), (15, _), (30, _)]) (Sub.cons rfl (Sub.cons rfl (Sub.cons rfl (Sub.cons rfl (Sub.cons rfl (Sub.cons rfl (Sub.cons rfl (Sub.cons rfl (Sub.cons rfl (Sub.cons rfl (Sub.nil _))))))))))) ?_
    first | refine TC.condP rfl (fun c2 => ?_) (fun c2 => ?_) | refine TC.condN rfl (fun c2 => ?_) (fun c2 => ?_) | refine TC.condB rfl (fun c2 => ?_) (fun c2 => ?_) | refine TC.cond rfl (fun c2 => ?_) (fun c2 => ?_)
    · skip
      refine TC.env (E' := [(0, _), (1, _), (2, _), (3, _), (4, _), (5, _), (6, _), (14, _), (15, _)]) (Sub.cons rfl (Sub.cons rfl (Sub.cons rfl (Sub.cons rfl (Sub.cons rfl (Sub.cons rfl (Sub.cons rfl (Sub.cons rfl (Sub.cons rfl (Sub.nil _)))))))))) ?_
      refine TC.seq ?_
      refine TC.region ?_
      refine TL.val rfl rfl (Nat.le_of_ble_eq_true rfl) (Val.assign rfl) ?_
      refine TL.val rfl rfl (Nat.le_of_ble_eq_true rfl) (Val.assign rfl) ?_
      refine TL.nil ?_
      refine AtX.then ?_
      refine TC.env (E' := [(0, _), (1, _), (2, _), (3, _), (4, _), (5, _), (6, _), (14, _), (15, _)]) (Sub.cons rfl (Sub.cons rfl (Sub.cons rfl (Sub.cons rfl (Sub.cons rfl (Sub.cons rfl (Sub.cons rfl (Sub.cons rfl (Sub.cons rfl (Sub.nil _)))))))))) ?_
      refine TC.ret2 (fn := Try.f23) (fun _ _ h => h) rfl (RV.tmp rfl) (RV.tmp rfl) (fun _ h => h) ?_
      exact ⟨rfl, rfl⟩
    · skip
      cases c2

/-- (*quorumite/adverse.World).Forge -/
theorem Forge_ok (b i j : Nat) (c : Cf) (A : Option Addr) (nl cl bb : Nat) (σ : Sl) (nk : Nat) (n : Int) (l : List Bool) (H : Hp) (hi : H[i]? = some (wob b c A nl cl bb l.length σ nk n)) (hj : H[j]? = some (bb, row 4 (l.map Value.bool))) (hnl : nl = l.length) (k : Nat) (hk : k < nl) (hx : l[k]? = some true) (hn : 0 ≤ n ∧ n ≤ 1000000) (me e v sq gn : Int) (hm : mayM ⟨1, (k : Nat), gn, sq, e, v, me⟩ = true) : FnC Try.prog 23 #[.pointer (some ⟨b, 0, none⟩), .int .i64 ((k : Nat) : Int), .int .i64 me, .int .i64 e, .int .i64 v, .int .i64 sq, .int .i64 gn] H (fun u M' => ∃ bE c' sp, u = .tuple #[.slice (some ⟨bE, 0, none⟩) 48 c', .int .i64 0] ∧ 48 + sp.length = c' ∧ M' = (bE, row 5 (bv (sealB (macKey c.seed (k : Nat) gn) ⟨1, (k : Nat), gn, sq, e, v, me⟩) ++ sp)) :: H.set i (wob b c A nl cl bb l.length σ nk (n + 1))) := by
  have hR := rd_rowA hj
  have hlt : i < H.length := (List.getElem?_eq_some_iff.1 hi).1
  refine FnC.intro Try.func23 rfl 53 rfl (by simp) (fun z => ?_)
  refine TC.env (E' := [(0, _), (1, _), (2, _), (3, _), (4, _), (5, _), (6, _)]) (Sub.cons rfl (Sub.cons rfl (Sub.cons rfl (Sub.cons rfl (Sub.cons rfl (Sub.cons rfl (Sub.cons rfl (Sub.nil _)))))))) ?_
  refine TC.seq ?_
  refine TC.region ?_
  refine TL.val rfl rfl (Nat.le_of_ble_eq_true rfl) (Val.assign rfl) ?_
  refine TL.val rfl rfl (Nat.le_of_ble_eq_true rfl) (Val.assign rfl) ?_
  refine TL.nil ?_
  refine AtX.then ?_
  refine TC.seq ?_
  refine TC.seq ?_
  refine TC.region ?_
  refine TL.val rfl rfl (Nat.le_of_ble_eq_true rfl) (Val.move rfl) ?_
  refine TL.val rfl rfl (Nat.le_of_ble_eq_true rfl) (Val.move rfl) ?_
  refine TL.does (some 19) rfl rfl rfl (Does.callF go46 rfl (has_ok b i c A nl cl bb l.length σ nk n _ hi k hk)) ?_
  rintro _ _ ⟨rfl, rfl⟩
  refine TL.val rfl rfl (Nat.le_of_ble_eq_true rfl) (Val.assign rfl) ?_
  refine TL.nil ?_
  refine AtX.then ?_
  refine TC.env (E' := [(0, _), (1, _), (2, _), (3, _), (4, _), (5, _), (6, _), (14, _), (15, _), (16, _)]) (Sub.cons rfl (Sub.cons rfl (Sub.cons rfl (Sub.cons rfl (Sub.cons rfl (Sub.cons rfl (Sub.cons rfl (Sub.cons rfl (Sub.cons rfl (Sub.cons rfl (Sub.nil _))))))))))) ?_
  refine TC.seq ?_
  refine TC.region ?_
  refine TL.val rfl rfl (Nat.le_of_ble_eq_true rfl) (Val.move rfl) ?_
  refine TL.val rfl rfl (Nat.le_of_ble_eq_true rfl) (Val.neqI rfl rfl) ?_
  refine TL.nil ?_
  refine AtX.then ?_
  refine TC.env (E' := [(0, _), (1, _), (2, _), (3, _), (4, _), (5, _), (6, _), (14, _), (15, _), (16, _), (21, _)]) (Sub.cons rfl (Sub.cons rfl (Sub.cons rfl (Sub.cons rfl (Sub.cons rfl (Sub.cons rfl (Sub.cons rfl (Sub.cons rfl (Sub.cons rfl (Sub.cons rfl (Sub.cons rfl (Sub.nil _)))))))))))) ?_
  first | refine TC.condP rfl (fun c1 => ?_) (fun c1 => ?_) | refine TC.condN rfl (fun c1 => ?_) (fun c1 => ?_) | refine TC.condB rfl (fun c1 => ?_) (fun c1 => ?_) | refine TC.cond rfl (fun c1 => ?_) (fun c1 => ?_)
  · skip
    exact absurd rfl c1
  · skip
    refine TC.env (E' := [(0, _), (1, _), (2, _), (3, _), (4, _), (5, _), (6, _), (14, _), (15, _)]) (Sub.cons rfl (Sub.cons rfl (Sub.cons rfl (Sub.cons rfl (Sub.cons rfl (Sub.cons rfl (Sub.cons rfl (Sub.cons rfl (Sub.cons rfl (Sub.nil _)))))))))) ?_
    refine TC.skip ?_
    refine AtX.then ?_
    refine TC.env (E' := [(0, _), (1, _), (2, _), (3, _), (4, _), (5, _), (6, _), (14, _), (15, _)]) (Sub.cons rfl (Sub.cons rfl (Sub.cons rfl (Sub.cons rfl (Sub.cons rfl (Sub.cons rfl (Sub.cons rfl (Sub.cons rfl (Sub.cons rfl (Sub.nil _)))))))))) ?_
    refine TC.seq ?_
    refine TC.seq ?_
    refine TC.region ?_
    refine TL.val rfl rfl (Nat.le_of_ble_eq_true rfl) (Val.move rfl) ?_
    refine TL.val rfl rfl (Nat.le_of_ble_eq_true rfl) (Val.nilCheck rfl) ?_
    refine TL.val rfl rfl (Nat.le_of_ble_eq_true rfl) (Val.fieldAddr rfl fl94_2 sz85 rfl) ?_
    refine TL.val rfl rfl (Nat.le_of_ble_eq_true rfl) (Val.load i rfl ag85 hi rfl) ?_
    refine TL.val rfl rfl (Nat.le_of_ble_eq_true rfl) (Val.move rfl) ?_
    refine TL.val rfl rfl (Nat.le_of_ble_eq_true rfl) (Val.indexAddr (i := k) (r := k) rfl rfl sl85 sz4 rfl (by omega) (by omega)) ?_
    refine TL.val rfl rfl (Nat.le_of_ble_eq_true rfl) (Val.loadRd (o := 0) (j := k) (v := .bool true) rfl ag4 hR (by omega) (map_get hx)) ?_
    refine TL.val rfl rfl (Nat.le_of_ble_eq_true rfl) (Val.not rfl) ?_
    refine TL.nil ?_
    refine AtX.then ?_
    refine TC.env (E' := [(0, _), (1, _), (2, _), (3, _), (4, _), (5, _), (6, _), (14, _), (15, _), (30, _)]) (Sub.cons rfl (Sub.cons rfl (Sub.cons rfl (Sub.cons rfl (Sub.cons rfl (Sub.cons rfl (Sub.cons rfl (Sub.cons rfl (Sub.cons rfl (Sub.cons rfl (Sub.nil _))))))))))) ?_
    first | refine TC.condP rfl (fun c2 => ?_) (fun c2 => ?_) | refine TC.condN rfl (fun c2 => ?_) (fun c2 => ?_) | refine TC.condB rfl (fun c2 => ?_) (fun c2 => ?_) | refine TC.cond rfl (fun c2 => ?_) (fun c2 => ?_)
    · skip
      cases c2
    · skip
      refine TC.env (E' := [(0, _), (1, _), (2, _), (3, _), (4, _), (5, _), (6, _), (14, _), (15, _)]) (Sub.cons rfl (Sub.cons rfl (Sub.cons rfl (Sub.cons rfl (Sub.cons rfl (Sub.cons rfl (Sub.cons rfl (Sub.cons rfl (Sub.cons rfl (Sub.nil _)))))))))) ?_
      refine TC.skip ?_
      refine AtX.then ?_
      refine TC.env (E' := [(0, _), (1, _), (2, _), (3, _), (4, _), (5, _), (6, _), (14, _), (15, _)]) (Sub.cons rfl (Sub.cons rfl (Sub.cons rfl (Sub.cons rfl (Sub.cons rfl (Sub.cons rfl (Sub.cons rfl (Sub.cons rfl (Sub.cons rfl (Sub.nil _)))))))))) ?_
      refine TC.seq ?_
      refine TC.region ?_
      refine TL.val rfl rfl (Nat.le_of_ble_eq_true rfl) (Val.move rfl) ?_
      refine TL.val rfl rfl (Nat.le_of_ble_eq_true rfl) (Val.nilCheck rfl) ?_
      refine TL.val rfl rfl (Nat.le_of_ble_eq_true rfl) (Val.fieldAddr rfl fl94_4 sz92 rfl) ?_
      refine TL.does (some 34) rfl rfl rfl (Does.callF go52 rfl (aAdd_fn b 29 i _ _ n 1 (n + 1) _ hi rfl (w_i64 (by omega) (by omega)))) ?_
      rintro _ _ ⟨rfl, rfl⟩
      refine TL.nil ?_
      refine AtX.then ?_
      refine TC.env (E' := [(0, _), (1, _), (2, _), (3, _), (4, _), (5, _), (6, _), (14, _), (15, _)]) (Sub.cons rfl (Sub.cons rfl (Sub.cons rfl (Sub.cons rfl (Sub.cons rfl (Sub.cons rfl (Sub.cons rfl (Sub.cons rfl (Sub.cons rfl (Sub.nil _)))))))))) ?_
      refine TC.seq ?_
      refine TC.heap (M' := H.set i (wob b c A nl cl bb l.length σ nk (n + 1))) (fun w h => h) ?_
      have hi2 : (H.set i (wob b c A nl cl bb l.length σ nk (n + 1)))[i]? = some (wob b c A nl cl bb l.length σ nk (n + 1)) := by simp [hlt]
      refine TC.region ?_
      refine TL.val rfl rfl (Nat.le_of_ble_eq_true rfl) (Val.move rfl) ?_
      refine TL.val rfl rfl (Nat.le_of_ble_eq_true rfl) (Val.nilCheck rfl) ?_
      refine TL.val rfl rfl (Nat.le_of_ble_eq_true rfl) (Val.fieldAddr rfl fl94_0 sz26 rfl) ?_
      refine TL.val rfl rfl (Nat.le_of_ble_eq_true rfl) (Val.fieldAddr rfl fl26_22 sz24 rfl) ?_
      refine TL.val rfl rfl (Nat.le_of_ble_eq_true rfl) (Val.load i rfl ag24 hi2 rfl) ?_
      refine TL.val rfl rfl (Nat.le_of_ble_eq_true rfl) (Val.move rfl) ?_
      refine TL.val rfl rfl (Nat.le_of_ble_eq_true rfl) (Val.move rfl) ?_
      refine TL.does (some 42) rfl rfl rfl (Does.callF go37 rfl (Of_fn c.seed (k : Nat) gn _)) ?_
      rintro _ _ ⟨rfl, rfl⟩
      refine TL.val rfl rfl (Nat.le_of_ble_eq_true rfl) (Val.move rfl) ?_
      refine TL.val rfl rfl (Nat.le_of_ble_eq_true rfl) (Val.move rfl) ?_
      refine TL.val rfl rfl (Nat.le_of_ble_eq_true rfl) (Val.move rfl) ?_
      refine TL.val rfl rfl (Nat.le_of_ble_eq_true rfl) (Val.move rfl) ?_
      refine TL.val rfl rfl (Nat.le_of_ble_eq_true rfl) (Val.move rfl) ?_
      refine TL.val rfl rfl (Nat.le_of_ble_eq_true rfl) (Val.move rfl) ?_
      refine TL.val rfl rfl (Nat.le_of_ble_eq_true rfl) (Val.buildS pl61 ze61 rfl rfl) ?_
      refine TL.does (some 50) rfl rfl rfl (Does.callF go36 rfl (wSeal_fn (macKey c.seed (k : Nat) gn) ⟨1, (k : Nat), gn, sq, e, v, me⟩ _ hm)) ?_
      rintro _ _ ⟨bE, cE, spE, rfl, hcE, rfl⟩
      refine TL.val rfl rfl (Nat.le_of_ble_eq_true rfl) (Val.extract rfl rfl) ?_
      refine TL.val rfl rfl (Nat.le_of_ble_eq_true rfl) (Val.extract rfl rfl) ?_
      refine TL.val rfl rfl (Nat.le_of_ble_eq_true rfl) (Val.assign rfl) ?_
      refine TL.val rfl rfl (Nat.le_of_ble_eq_true rfl) (Val.assign rfl) ?_
      refine TL.nil ?_
      refine AtX.then ?_
      refine TC.env (E' := [(14, _), (15, _)]) (Sub.cons rfl (Sub.cons rfl (Sub.nil _))) ?_
      refine TC.ret2 (fn := Try.f23) (fun _ _ h => h) rfl (RV.tmp rfl) (RV.tmp rfl) (fun _ h => h) ?_
      exact ⟨bE, _, spE, rfl, hcE, rfl⟩

/-- (*quorumite/adverse.World).Honest -/
theorem Honest_fn (b i j : Nat) (c : Cf) (A : Option Addr) (nl cl bb : Nat) (σ : Sl) (nk : Nat) (n : Int) (kept : List Smp) (l : List Bool) (H : Hp) (hi : H[i]? = some (wob b c A nl cl bb l.length σ nk n)) (hj : H[j]? = some (bb, row 4 (l.map Value.bool))) (hnl : nl = l.length) (hl : l.length ≤ 100) (hK : RdS H (slA σ) (kept.flatMap Smp.cs)) (hnk : nk = kept.length) (hkl : kept.length ≤ 1000) (me e : Int) : FnC Try.prog 17 #[.pointer (some ⟨b, 0, none⟩), .int .i64 e, .int .i64 me] H (fun v M' => ∃ τ, v = .slice (slA τ) (hon l kept me e).length (slC τ) ∧ slOk τ 1 (hon l kept me e).length ((hon l kept me e).map (Value.int .i64)) ∧ M' = slH τ 2 ((hon l kept me e).map (Value.int .i64)) ++ H) := by
  subst hnk
  subst hnl
  have hR := rd_rowA hj
  have hmi := List.mem_of_getElem? hi
  refine FnC.intro Try.func17 rfl 64 rfl (by simp) (fun z => ?_)
  refine TC.env (E' := [(0, _), (1, _), (2, _)]) (Sub.cons rfl (Sub.cons rfl (Sub.cons rfl (Sub.nil _)))) ?_
  refine TC.seq ?_
  refine TC.region ?_
  refine TL.val rfl rfl (Nat.le_of_ble_eq_true rfl) (Val.assign rfl) ?_
  refine TL.nil ?_
  refine AtX.then ?_
  refine TC.seq ?_
  refine TC.seq ?_
  refine TC.region ?_
  refine TL.val rfl rfl (Nat.le_of_ble_eq_true rfl) (Val.move rfl) ?_
  refine TL.val rfl rfl (Nat.le_of_ble_eq_true rfl) (Val.eqlNil rfl rfl pt28) ?_
  refine TL.nil ?_
  refine AtX.then ?_
  refine TC.env (E' := [(0, _), (1, _), (2, _), (6, _), (12, _)]) (Sub.cons rfl (Sub.cons rfl (Sub.cons rfl (Sub.cons rfl (Sub.cons rfl (Sub.nil _)))))) ?_
  first | refine TC.condP rfl (fun c1 => ?_) (fun c1 => ?_) | refine TC.condN rfl (fun c1 => ?_) (fun c1 => ?_) | refine TC.condB rfl (fun c1 => ?_) (fun c1 => ?_) | refine TC.cond rfl (fun c1 => ?_) (fun c1 => ?_)
  · skip
    (exfalso; simp at c1)
  · skip
    refine TC.env (E' := [(0, _), (1, _), (2, _), (6, _)]) (Sub.cons rfl (Sub.cons rfl (Sub.cons rfl (Sub.cons rfl (Sub.nil _))))) ?_
    refine TC.skip ?_
    refine AtX.then ?_
    refine TC.env (E' := [(0, _), (1, _), (2, _), (6, _)]) (Sub.cons rfl (Sub.cons rfl (Sub.cons rfl (Sub.cons rfl (Sub.nil _))))) ?_
    refine TC.seq ?_
    refine TC.region ?_
    refine TL.val rfl rfl (Nat.le_of_ble_eq_true rfl) (Val.assign rfl) ?_
    refine TL.nil ?_
    refine AtX.then ?_
    refine TC.env (E' := [(0, _), (1, _), (2, _), (6, _), (7, _)]) (Sub.cons rfl (Sub.cons rfl (Sub.cons rfl (Sub.cons rfl (Sub.cons rfl (Sub.nil _)))))) ?_
    refine TC.seq ?_
    refine TC.seq ?_
    refine TC.region ?_
    refine TL.val rfl rfl (Nat.le_of_ble_eq_true rfl) (Val.move rfl) ?_
    refine TL.val rfl rfl (Nat.le_of_ble_eq_true rfl) (Val.nilCheck rfl) ?_
    refine TL.val rfl rfl (Nat.le_of_ble_eq_true rfl) (Val.fieldAddr rfl fl94_1 sz86 rfl) ?_
    refine TL.val rfl rfl (Nat.le_of_ble_eq_true rfl) (Val.load i rfl ag86 hi rfl) ?_
    refine TL.val rfl rfl (Nat.le_of_ble_eq_true rfl) (Val.lenSl rfl rfl sl86) ?_
    refine TL.val rfl rfl (Nat.le_of_ble_eq_true rfl) (Val.move rfl) ?_
    refine TL.nil ?_
    refine AtX.then ?_
    refine TC.env (E' := [(0, _), (1, _), (2, _), (6, _), (7, _), (17, _), (18, _)]) (Sub.cons rfl (Sub.cons rfl (Sub.cons rfl (Sub.cons rfl (Sub.cons rfl (Sub.cons rfl (Sub.cons rfl (Sub.nil _)))))))) ?_
    refine TC.block ?_
    refine TC.loop (ι := (Nat × Sl)) (fun i => [(0, .pointer (some ⟨b, 0, none⟩)), (1, .int .i64 e), (2, .int .i64 me), (7, .slice (slA i.2) (honTo l kept me e i.1).length (slC i.2)), (17, .int .i64 (l.length : Nat)), (18, .int .i64 (i.1 : Nat))]) (fun i => slH i.2 2 ((honTo l kept me e i.1).map (Value.int .i64)) ++ H) (fun i => i.1 ≤ l.length ∧ slOk i.2 1 (honTo l kept me e i.1).length ((honTo l kept me e i.1).map (Value.int .i64))) (fun i => l.length - i.1) (0, none) ?_ (Sub.cons rfl (Sub.cons rfl (Sub.cons rfl (Sub.cons rfl (Sub.cons rfl (Sub.cons rfl (Sub.nil _))))))) (fun _ h => h) ?_
    · exact ⟨Nat.zero_le _, slOk_nil 1⟩
    rintro ⟨w, τ0⟩ ⟨hw, hok0⟩
    dsimp only at hw hok0 ⊢
    refine TC.seq ?_
    refine TC.region ?_
    refine TL.val rfl rfl (Nat.le_of_ble_eq_true rfl) (Val.lss rfl rfl) ?_
    refine TL.nil ?_
    refine AtX.then ?_
    refine TC.seq ?_
    first | refine TC.condP rfl (fun c2 => ?_) (fun c2 => ?_) | refine TC.condN rfl (fun c2 => ?_) (fun c2 => ?_) | refine TC.condB rfl (fun c2 => ?_) (fun c2 => ?_) | refine TC.cond rfl (fun c2 => ?_) (fun c2 => ?_)
    · skip
      refine TC.skip ?_
      refine AtX.then ?_
      refine TC.seq ?_
      refine TC.block ?_
      refine TC.seq ?_
      refine TC.region ?_
      refine TL.val rfl rfl (Nat.le_of_ble_eq_true rfl) (Val.move rfl) ?_
      refine TL.val rfl rfl (Nat.le_of_ble_eq_true rfl) (Val.assign rfl) ?_
      refine TL.nil ?_
      refine AtX.then ?_
      refine TC.seq ?_
      have hwl : w < l.length := by omega
      obtain ⟨y, hy⟩ : ∃ y, l[w]? = some y := ⟨_, List.getElem?_eq_getElem hwl⟩
      refine TC.region ?_
      refine TL.val rfl rfl (Nat.le_of_ble_eq_true rfl) (Val.move rfl) ?_
      refine TL.val rfl rfl (Nat.le_of_ble_eq_true rfl) (Val.nilCheck rfl) ?_
      refine TL.val rfl rfl (Nat.le_of_ble_eq_true rfl) (Val.fieldAddr rfl fl94_3 sz87 rfl) ?_
      refine TL.val rfl rfl (Nat.le_of_ble_eq_true rfl) (Val.loadMem rfl ag87 (List.mem_append_right _ hmi) rfl) ?_
      refine TL.val rfl rfl (Nat.le_of_ble_eq_true rfl) (Val.lenSl rfl rfl sl87) ?_
      refine TL.val rfl rfl (Nat.le_of_ble_eq_true rfl) (Val.move rfl) ?_
      refine TL.nil ?_
      refine AtX.then ?_
      refine TC.block ?_
      refine TC.loop (ι := (Nat × Sl)) (fun i => [(0, .pointer (some ⟨b, 0, none⟩)), (1, .int .i64 e), (2, .int .i64 me), (7, .slice (slA i.2) (honTo l kept me e w ++ honIn kept (w : Nat) me e y i.1).length (slC i.2)), (8, .int .i64 (w : Nat)), (17, .int .i64 (l.length : Nat)), (18, .int .i64 (w : Nat)), (24, .slice (slA σ) kept.length (slC σ)), (25, .int .i64 (kept.length : Nat)), (26, .int .i64 (i.1 : Nat))]) (fun i => slH i.2 2 ((honTo l kept me e w ++ honIn kept (w : Nat) me e y i.1).map (Value.int .i64)) ++ H) (fun i => i.1 ≤ kept.length ∧ slOk i.2 1 (honTo l kept me e w ++ honIn kept (w : Nat) me e y i.1).length ((honTo l kept me e w ++ honIn kept (w : Nat) me e y i.1).map (Value.int .i64))) (fun i => kept.length - i.1) (0, τ0) ?_ (Sub.cons rfl (Sub.cons rfl (Sub.cons rfl (Sub.cons (by dsimp only [honIn]; rw [List.append_nil]; rfl) (Sub.cons rfl (Sub.cons rfl (Sub.cons rfl (Sub.cons rfl (Sub.cons rfl (Sub.cons rfl (Sub.nil _))))))))))) (fun w h => by simpa [honIn] using h) ?_
      · exact ⟨Nat.zero_le _, by simpa [honIn] using hok0⟩
      rintro ⟨j, τ⟩ ⟨hj2, hok⟩
      dsimp only at hj2 hok ⊢
      refine TC.seq ?_
      refine TC.region ?_
      refine TL.val rfl rfl (Nat.le_of_ble_eq_true rfl) (Val.lss rfl rfl) ?_
      refine TL.nil ?_
      refine AtX.then ?_
      refine TC.seq ?_
      first | refine TC.condP rfl (fun c3 => ?_) (fun c3 => ?_) | refine TC.condN rfl (fun c3 => ?_) (fun c3 => ?_) | refine TC.condB rfl (fun c3 => ?_) (fun c3 => ?_) | refine TC.cond rfl (fun c3 => ?_) (fun c3 => ?_)
      · skip
        refine TC.skip ?_
        refine AtX.then ?_
        refine TC.seq ?_
        refine TC.block ?_
        refine TC.seq ?_
        have hlt : j < kept.length := by omega
        obtain ⟨x, hx⟩ : ∃ x, kept[j]? = some x := ⟨_, List.getElem?_eq_getElem hlt⟩
        have hAk : ∃ bA oA : Nat, slA σ = some ⟨bA, oA, none⟩ ∧ Rd H ⟨bA, oA, none⟩ (kept.flatMap Smp.cs) := RdS.get hK (by rw [flat_len Smp.cs_len]; omega)
        obtain ⟨bA, oA, hAe, hRk⟩ := hAk
        have hl1 := honTo_le l kept me e w
        have hl2 := honIn_le kept ((w : Nat) : Int) me e y j
        have hl3 : w * kept.length ≤ 100 * 1000 := Nat.mul_le_mul (by omega) hkl
        rw [hAe]
        refine TC.region ?_
        refine TL.val rfl rfl (Nat.le_of_ble_eq_true rfl) (Val.indexAddr (i := j) (r := oA + 4 * j) rfl rfl sl87 sz100 rfl hlt (by omega)) ?_
        refine TL.val rfl rfl (Nat.le_of_ble_eq_true rfl) (Val.loadAggR (o := oA) (j := 4 * j) (vs := x.cs) rfl ag100 sz100 (Rd.app _ hRk) rfl (flat_seg Smp.cs_len hx) rfl) ?_
        refine TL.does (some 10) rfl rfl rfl (Does.alloc ze100 rfl) ?_
        rintro _ _ ⟨b1, rfl, rfl⟩
        refine TL.does none rfl rfl rfl (Does.store (i := 0) rfl rfl rfl sz100 rfl rfl (by first | exact Nat.le_of_ble_eq_true rfl | decide | omega) rfl rfl) ?_
        rintro _ _ ⟨rfl, rfl⟩
        refine TL.nil ?_
        refine AtX.then ?_
        refine TC.seq ?_
        refine TC.region ?_
        refine TL.val rfl rfl (Nat.le_of_ble_eq_true rfl) (Val.fieldAddr rfl fl100_0 sz3 rfl) ?_
        refine TL.val rfl rfl (Nat.le_of_ble_eq_true rfl) (Val.load 0 rfl ag3 rfl rfl) ?_
        refine TL.val rfl rfl (Nat.le_of_ble_eq_true rfl) (Val.move rfl) ?_
        refine TL.val rfl rfl (Nat.le_of_ble_eq_true rfl) (Val.eqlI rfl rfl) ?_
        refine TL.val rfl rfl (Nat.le_of_ble_eq_true rfl) (Val.move rfl) ?_
        refine TL.gen (fun g2 hg2 => ?_)
        refine TL.gval rfl rfl (Nat.le_of_ble_eq_true rfl) rfl (Nat.le_of_ble_eq_true rfl) rfl (fun hg => by subst hg; exact (Val.move rfl)) ?_
        refine TL.gval rfl rfl (Nat.le_of_ble_eq_true rfl) rfl (Nat.le_of_ble_eq_true rfl) rfl (fun hg => by subst hg; exact (Val.nilCheck rfl)) ?_
        refine TL.gval rfl rfl (Nat.le_of_ble_eq_true rfl) rfl (Nat.le_of_ble_eq_true rfl) rfl (fun hg => by subst hg; exact (Val.fieldAddr rfl fl94_2 sz85 rfl)) ?_
        refine TL.gval rfl rfl (Nat.le_of_ble_eq_true rfl) rfl (Nat.le_of_ble_eq_true rfl) rfl (fun hg => by subst hg; exact (Val.loadMem rfl ag85 (List.mem_cons_of_mem _ (List.mem_append_right _ hmi)) rfl)) ?_
        refine TL.gval rfl rfl (Nat.le_of_ble_eq_true rfl) rfl (Nat.le_of_ble_eq_true rfl) rfl (fun hg => by subst hg; exact (Val.move rfl)) ?_
        refine TL.gval rfl rfl (Nat.le_of_ble_eq_true rfl) rfl (Nat.le_of_ble_eq_true rfl) rfl (fun hg => by subst hg; exact (Val.indexAddr (i := w) (r := w) rfl rfl sl85 sz4 rfl hwl (by omega))) ?_
        refine TL.gval rfl rfl (Nat.le_of_ble_eq_true rfl) rfl (Nat.le_of_ble_eq_true rfl) rfl (fun hg => by subst hg; exact (Val.loadRd (o := 0) (j := w) (v := .bool y) rfl ag4 (Rd.cons _ (Rd.app _ hR)) (by omega) (map_get hy))) ?_
        refine TL.gval rfl rfl (Nat.le_of_ble_eq_true rfl) rfl (Nat.le_of_ble_eq_true rfl) rfl (fun hg => by subst hg; exact (Val.not rfl)) ?_
        refine TL.val rfl rfl (Nat.le_of_ble_eq_true rfl) (Val.pickAnd rfl rfl rfl) ?_
        refine TL.val rfl rfl (Nat.le_of_ble_eq_true rfl) (Val.move rfl) ?_
        refine TL.gen (fun g3 hg3 => ?_)
        refine TL.gval rfl rfl (Nat.le_of_ble_eq_true rfl) rfl (Nat.le_of_ble_eq_true rfl) rfl (fun hg => by subst hg; exact (Val.fieldAddr rfl fl100_2 sz2 rfl)) ?_
        refine TL.gval rfl rfl (Nat.le_of_ble_eq_true rfl) rfl (Nat.le_of_ble_eq_true rfl) rfl (fun hg => by subst hg; exact (Val.load 0 rfl ag2 rfl rfl)) ?_
        refine TL.gval rfl rfl (Nat.le_of_ble_eq_true rfl) rfl (Nat.le_of_ble_eq_true rfl) rfl (fun hg => by subst hg; exact (Val.move rfl)) ?_
        refine TL.gval rfl rfl (Nat.le_of_ble_eq_true rfl) rfl (Nat.le_of_ble_eq_true rfl) rfl (fun hg => by subst hg; exact (Val.eqlI rfl rfl)) ?_
        refine TL.val rfl rfl (Nat.le_of_ble_eq_true rfl) (Val.pickAnd rfl rfl rfl) ?_
        refine TL.val rfl rfl (Nat.le_of_ble_eq_true rfl) (Val.move rfl) ?_
        refine TL.gen (fun g4 hg4 => ?_)
        refine TL.gval rfl rfl (Nat.le_of_ble_eq_true rfl) rfl (Nat.le_of_ble_eq_true rfl) rfl (fun hg => by subst hg; exact (Val.fieldAddr rfl fl100_1 sz3 rfl)) ?_
        refine TL.gval rfl rfl (Nat.le_of_ble_eq_true rfl) rfl (Nat.le_of_ble_eq_true rfl) rfl (fun hg => by subst hg; exact (Val.load 0 rfl ag3 rfl rfl)) ?_
        refine TL.gval rfl rfl (Nat.le_of_ble_eq_true rfl) rfl (Nat.le_of_ble_eq_true rfl) rfl (fun hg => by subst hg; exact (Val.move rfl)) ?_
        refine TL.gval rfl rfl (Nat.le_of_ble_eq_true rfl) rfl (Nat.le_of_ble_eq_true rfl) rfl (fun hg => by subst hg; exact (Val.eqlI rfl rfl)) ?_
        refine TL.val rfl rfl (Nat.le_of_ble_eq_true rfl) (Val.pickAnd rfl rfl rfl) ?_
        refine TL.nil ?_
        refine AtX.then ?_
        first | refine TC.condP rfl (fun c4 => ?_) (fun c4 => ?_) | refine TC.condN rfl (fun c4 => ?_) (fun c4 => ?_) | refine TC.condB rfl (fun c4 => ?_) (fun c4 => ?_) | refine TC.cond rfl (fun c4 => ?_) (fun c4 => ?_)
        · skip
          have hsel : selS x ((w : Nat) : Int) me e y = true := by subst_vars; exact c4
          have hlen : (honTo l kept me e w ++ honIn kept (w : Nat) me e y (j + 1)).length = (honTo l kept me e w ++ honIn kept (w : Nat) me e y j).length + 1 := by rw [hon_t hx hsel]; simp; omega
          have hmap : (honTo l kept me e w ++ honIn kept (w : Nat) me e y (j + 1)).map (Value.int .i64) = (honTo l kept me e w ++ honIn kept (w : Nat) me e y j).map (Value.int .i64) ++ [Value.int .i64 x.value] := by rw [hon_t hx hsel]; simp
          refine TC.region ?_
          refine TL.val rfl rfl (Nat.le_of_ble_eq_true rfl) (Val.move rfl) ?_
          refine TL.val rfl rfl (Nat.le_of_ble_eq_true rfl) (Val.fieldAddr rfl fl100_3 sz2 rfl) ?_
          refine TL.val rfl rfl (Nat.le_of_ble_eq_true rfl) (Val.load 0 rfl ag2 rfl rfl) ?_
          refine TL.does (some 59) rfl rfl rfl (Does.buildSlice sl36 sz2 ze2 (by decide) (by decide) rfl rfl rfl) ?_
          rintro _ _ ⟨b5, rfl, rfl⟩
          refine TL.does (some 60) rfl rfl rfl (Does.appendS (xs := (honTo l kept me e w ++ honIn kept (w : Nat) me e y j).map (Value.int .i64)) (ys := [Value.int .i64 x.value]) τ H (ro_tail (ro_tail ro_refl)) rfl rfl sl36 sz2 by2 ze2 rfl hok (.inl ⟨_, _, rfl, ⟨2, us36⟩, .some (Rd.get (i := 0) rfl rfl)⟩) rfl (one_int _ _) (by rw [List.length_append]; omega) (by rw [List.length_append]; omega)) ?_
          rintro _ _ ⟨τ1, rfl, hok1, rfl⟩
          refine TL.val rfl rfl (Nat.le_of_ble_eq_true rfl) (Val.assign rfl) ?_
          refine TL.nil ?_
          refine AtX.blk ?_
          refine AtX.then ?_
          refine TC.region ?_
          refine TL.val rfl rfl (Nat.le_of_ble_eq_true rfl) (Val.add rfl rfl (w_i64 (by omega) (by omega))) ?_
          refine TL.val rfl rfl (Nat.le_of_ble_eq_true rfl) (Val.move rfl) ?_
          refine TL.nil ?_
          refine AtX.round (i := (j, τ)) (j + 1, τ1) ?_ ?_ (Sub.cons rfl (Sub.cons rfl (Sub.cons rfl (Sub.cons (by dsimp only; rw [hlen]; rfl) (Sub.cons rfl (Sub.cons rfl (Sub.cons rfl (Sub.cons rfl (Sub.cons rfl (Sub.cons rfl (Sub.nil _))))))))))) (fun w h => by dsimp only; rw [hmap]; exact h)
          · exact ⟨by omega, by dsimp only; rw [hlen, hmap]; exact hok1⟩
          · show kept.length - (j + 1) < kept.length - j; omega
        · skip
          refine TC.skip ?_
          refine AtX.blk ?_
          refine AtX.then ?_
          refine TC.region ?_
          refine TL.val rfl rfl (Nat.le_of_ble_eq_true rfl) (Val.add rfl rfl (w_i64 (by omega) (by omega))) ?_
          refine TL.val rfl rfl (Nat.le_of_ble_eq_true rfl) (Val.move rfl) ?_
          refine TL.nil ?_
          refine AtX.round (i := (j, τ)) (j + 1, τ) ?_ ?_ (Sub.cons rfl (Sub.cons rfl (Sub.cons rfl (Sub.cons (by dsimp only; rw [hon_f hx (show selS x ((w : Nat) : Int) me e y = false by subst_vars; exact c4)]; rfl) (Sub.cons rfl (Sub.cons rfl (Sub.cons rfl (Sub.cons rfl (Sub.cons rfl (Sub.cons rfl (Sub.nil _))))))))))) (fun ww h => by dsimp only; rw [hon_f hx (show selS x ((w : Nat) : Int) me e y = false by subst_vars; exact c4)]; exact h.drop)
          · exact ⟨by omega, by dsimp only; rw [hon_f hx (show selS x ((w : Nat) : Int) me e y = false by subst_vars; exact c4)]; exact hok⟩
          · show kept.length - (j + 1) < kept.length - j; omega
      · skip
        refine TC.exit ?_
        refine AtX.seqX ?_
        refine AtX.seqX ?_
        refine AtX.hit ?_
        refine AtX.blk ?_
        refine AtX.then ?_
        have hjk : j = kept.length := by omega
        subst hjk
        refine TC.region ?_
        refine TL.val rfl rfl (Nat.le_of_ble_eq_true rfl) (Val.add rfl rfl (w_i64 (by omega) (by omega))) ?_
        refine TL.val rfl rfl (Nat.le_of_ble_eq_true rfl) (Val.move rfl) ?_
        refine TL.nil ?_
        refine AtX.round (i := (w, τ0)) (w + 1, τ) ?_ ?_ (Sub.cons rfl (Sub.cons rfl (Sub.cons rfl (Sub.cons (by dsimp only; rw [hon_S hy]; rfl) (Sub.cons rfl (Sub.cons rfl (Sub.nil _))))))) (fun w h => by dsimp only; rw [hon_S hy]; exact h)
        · exact ⟨by omega, by dsimp only; rw [hon_S hy]; exact hok⟩
        · show l.length - (w + 1) < l.length - w; omega
    · skip
      refine TC.exit ?_
      refine AtX.seqX ?_
      refine AtX.seqX ?_
      refine AtX.hit ?_
      refine AtX.then ?_
      refine TC.env (E' := [(7, _)]) (Sub.cons rfl (Sub.nil _)) ?_
      refine TC.seq ?_
      have hwl : w = l.length := by omega
      subst hwl
      refine TC.region ?_
      refine TL.val rfl rfl (Nat.le_of_ble_eq_true rfl) (Val.move rfl) ?_
      refine TL.val rfl rfl (Nat.le_of_ble_eq_true rfl) (Val.assign rfl) ?_
      refine TL.nil ?_
      refine AtX.then ?_
      refine TC.env (E' := [(6, _)]) (Sub.cons rfl (Sub.nil _)) ?_
      refine TC.ret1 (fn := Try.f17) (fun _ _ h => h) rfl (RV.tmp rfl) (fun _ h => h) ?_
      exact ⟨τ0, rfl, hok0, rfl⟩

end Go.Proofs.Ytphoapajlcaoeaa
/- walks -/
set_option linter.unusedVariables false
set_option linter.unusedSimpArgs false
set_option maxRecDepth 100000
set_option maxHeartbeats 4000000
namespace Go.Proofs.Ytphoapajlcaoeaa
open Go Go.X
/-- (*quorumite/quorumiteref22.World).Honest -/
theorem rHonest_fn (b i j : Nat) (c : Cf) (A : Option Addr) (nl cl bb : Nat) (σ : Sl) (nk : Nat) (kept : List Smp) (l : List Bool) (H : Hp) (hi : H[i]? = some (rwo b c A nl cl bb l.length σ nk)) (hj : H[j]? = some (bb, row 4 (l.map Value.bool))) (hN : c.n = (l.length : Nat)) (hl : l.length ≤ 100) (hK : RdS H (slA σ) (kept.flatMap Smp.cs)) (hnk : nk = kept.length) (hkl : kept.length ≤ 1000) (me e : Int) : FnC Try.prog 28 #[.pointer (some ⟨b, 0, none⟩), .int .i64 e, .int .i64 me] H (fun v M' => ∃ τ, v = .slice (slA τ) (hon l kept me e).length (slC τ) ∧ slOk τ 1 (hon l kept me e).length ((hon l kept me e).map (Value.int .i64)) ∧ M' = slH τ 2 ((hon l kept me e).map (Value.int .i64)) ++ H) := by
  subst hnk
  have hR := rd_rowA hj
  have hmi := List.mem_of_getElem? hi
  refine FnC.intro Try.func28 rfl 68 rfl (by simp) (fun z => ?_)
  refine TC.env (E' := [(0, _), (1, _), (2, _)]) (Sub.cons rfl (Sub.cons rfl (Sub.cons rfl (Sub.nil _)))) ?_
  refine TC.sr ?_
  refine TL.v (Val.assign rfl) ?_
  refine TL.nt ?_
  refine TC.sr ?_
  refine TL.v (Val.assign rfl) ?_
  refine TL.nt ?_
  refine TC.seq ?_
  refine TC.sr ?_
  refine TL.v (Val.assign rfl) ?_
  refine TL.nt ?_
  refine TC.block ?_
  refine TC.loop (ι := (Nat × Sl)) (fun i => [(0, .pointer (some ⟨b, 0, none⟩)), (1, .int .i64 e), (2, .int .i64 me), (7, .slice (slA i.2) (honTo l kept me e i.1).length (slC i.2)), (8, .int .i64 (i.1 : Nat))]) (fun i => slH i.2 2 ((honTo l kept me e i.1).map (Value.int .i64)) ++ H) (fun i => i.1 ≤ l.length ∧ slOk i.2 1 (honTo l kept me e i.1).length ((honTo l kept me e i.1).map (Value.int .i64))) (fun i => l.length - i.1) (0, none) ?_ (Sub.cons rfl (Sub.cons rfl (Sub.cons rfl (Sub.cons rfl (Sub.cons rfl (Sub.nil _)))))) (fun _ h => h) ?_
  · exact ⟨Nat.zero_le _, slOk_nil 1⟩
  rintro ⟨w, τ0⟩ ⟨hw, hok0⟩
  dsimp only at hw hok0 ⊢
  refine TC.seq ?_
  refine TC.sr ?_
  refine TL.v (Val.move rfl) ?_
  refine TL.v (Val.move rfl) ?_
  refine TL.v (Val.nilCheck rfl) ?_
  refine TL.v (Val.fieldAddr rfl fl105_0 sz26 rfl) ?_
  refine TL.v (Val.fieldAddr rfl fl26_0 sz3 rfl) ?_
  refine TL.v (Val.loadMem rfl ag3 (List.mem_append_right _ hmi) rfl) ?_
  refine TL.v (Val.lss rfl rfl) ?_
  refine TL.nt ?_
  refine TC.condP rfl (fun c1 => ?_) (fun c1 => ?_)
  · skip
    refine TC.skip ?_
    refine AtX.then ?_
    refine TC.seq ?_
    refine TC.block ?_
    refine TC.seq ?_
    have hwl : w < l.length := by omega
    obtain ⟨y, hy⟩ : ∃ y, l[w]? = some y := ⟨_, List.getElem?_eq_getElem hwl⟩
    refine TC.region ?_
    refine TL.v (Val.assign rfl) ?_
    refine TL.nt ?_
    refine TC.block ?_
    refine TC.loop (ι := (Nat × Sl)) (fun i => [(0, .pointer (some ⟨b, 0, none⟩)), (1, .int .i64 e), (2, .int .i64 me), (7, .slice (slA i.2) (honTo l kept me e w ++ honIn kept (w : Nat) me e y i.1).length (slC i.2)), (8, .int .i64 (w : Nat)), (9, .int .i64 (i.1 : Nat))]) (fun i => slH i.2 2 ((honTo l kept me e w ++ honIn kept (w : Nat) me e y i.1).map (Value.int .i64)) ++ H) (fun i => i.1 ≤ kept.length ∧ slOk i.2 1 (honTo l kept me e w ++ honIn kept (w : Nat) me e y i.1).length ((honTo l kept me e w ++ honIn kept (w : Nat) me e y i.1).map (Value.int .i64))) (fun i => kept.length - i.1) (0, τ0) ?_ (Sub.cons rfl (Sub.cons rfl (Sub.cons rfl (Sub.cons (by dsimp only [honIn]; rw [List.append_nil]; rfl) (Sub.cons rfl (Sub.cons rfl (Sub.nil _))))))) (fun w h => by simpa [honIn] using h) ?_
    · exact ⟨Nat.zero_le _, by simpa [honIn] using hok0⟩
    rintro ⟨j, τ⟩ ⟨hj2, hok⟩
    dsimp only at hj2 hok ⊢
    refine TC.seq ?_
    refine TC.sr ?_
    refine TL.v (Val.move rfl) ?_
    refine TL.v (Val.move rfl) ?_
    refine TL.v (Val.nilCheck rfl) ?_
    refine TL.v (Val.fieldAddr rfl fl105_3 sz87 rfl) ?_
    refine TL.v (Val.loadMem rfl ag87 (List.mem_append_right _ hmi) rfl) ?_
    refine TL.v (Val.lenSl rfl rfl sl87) ?_
    refine TL.v (Val.lss rfl rfl) ?_
    refine TL.nt ?_
    refine TC.condP rfl (fun c2 => ?_) (fun c2 => ?_)
    · skip
      refine TC.skip ?_
      refine AtX.then ?_
      refine TC.seq ?_
      refine TC.block ?_
      refine TC.seq ?_
      have hlt : j < kept.length := by omega
      obtain ⟨x, hx⟩ : ∃ x, kept[j]? = some x := ⟨_, List.getElem?_eq_getElem hlt⟩
      have hAk : ∃ bA oA : Nat, slA σ = some ⟨bA, oA, none⟩ ∧ Rd H ⟨bA, oA, none⟩ (kept.flatMap Smp.cs) := RdS.get hK (by rw [flat_len Smp.cs_len]; omega)
      obtain ⟨bA, oA, hAe, hRk⟩ := hAk
      have hl1 := honTo_le l kept me e w
      have hl2 := honIn_le kept ((w : Nat) : Int) me e y j
      have hl3 : w * kept.length ≤ 100 * 1000 := Nat.mul_le_mul (by omega) hkl
      refine TC.region ?_
      refine TL.v (Val.move rfl) ?_
      refine TL.v (Val.nilCheck rfl) ?_
      refine TL.v (Val.fieldAddr rfl fl105_3 sz87 rfl) ?_
      refine TL.v (Val.loadMem rfl ag87 (List.mem_append_right _ hmi) rfl) ?_
      rw [hAe]
      refine TL.v (Val.move rfl) ?_
      refine TL.v (Val.indexAddr (i := j) (r := oA + 4 * j) rfl rfl sl87 sz100 rfl hlt (by omega)) ?_
      refine TL.v (Val.loadAggR (o := oA) (j := 4 * j) (vs := x.cs) rfl ag100 sz100 (Rd.app _ hRk) rfl (flat_seg Smp.cs_len hx) rfl) ?_
      refine TL.d (Does.alloc ze100 rfl) ?_
      rintro _ _ ⟨b1, rfl, rfl⟩
      refine TL.d (Does.store (i := 0) rfl rfl rfl sz100 rfl rfl (by first | exact Nat.le_of_ble_eq_true rfl | decide | omega) rfl rfl) ?_
      rintro _ _ ⟨rfl, rfl⟩
      refine TL.nt ?_
      refine TC.sr ?_
      refine TL.v (Val.move rfl) ?_
      refine TL.v (Val.nilCheck rfl) ?_
      refine TL.v (Val.fieldAddr rfl fl105_2 sz85 rfl) ?_
      refine TL.v (Val.loadMem rfl ag85 (List.mem_cons_of_mem _ (List.mem_append_right _ hmi)) rfl) ?_
      refine TL.v (Val.move rfl) ?_
      refine TL.v (Val.indexAddr (i := w) (r := w) rfl rfl sl85 sz4 rfl hwl (by omega)) ?_
      refine TL.v (Val.loadRd (o := 0) (j := w) (v := .bool y) rfl ag4 (Rd.cons _ (Rd.app _ hR)) (by omega) (map_get hy)) ?_
      refine TL.v (Val.not rfl) ?_
      refine TL.v (Val.move rfl) ?_
      refine TL.gen (fun g2 hg2 => ?_)
      refine TL.gv rfl rfl rfl (fun hg => by subst hg; exact (Val.fieldAddr rfl fl100_0 sz3 rfl)) ?_
      refine TL.gv rfl rfl rfl (fun hg => by subst hg; exact (Val.load 0 rfl ag3 rfl rfl)) ?_
      refine TL.gv rfl rfl rfl (fun hg => by subst hg; exact (Val.move rfl)) ?_
      refine TL.gv rfl rfl rfl (fun hg => by subst hg; exact (Val.eqlI rfl rfl)) ?_
      refine TL.v (Val.pickAnd rfl rfl rfl) ?_
      refine TL.v (Val.move rfl) ?_
      refine TL.gen (fun g3 hg3 => ?_)
      refine TL.gv rfl rfl rfl (fun hg => by subst hg; exact (Val.fieldAddr rfl fl100_2 sz2 rfl)) ?_
      refine TL.gv rfl rfl rfl (fun hg => by subst hg; exact (Val.load 0 rfl ag2 rfl rfl)) ?_
      refine TL.gv rfl rfl rfl (fun hg => by subst hg; exact (Val.move rfl)) ?_
      refine TL.gv rfl rfl rfl (fun hg => by subst hg; exact (Val.eqlI rfl rfl)) ?_
      refine TL.v (Val.pickAnd rfl rfl rfl) ?_
      refine TL.v (Val.move rfl) ?_
      refine TL.gen (fun g4 hg4 => ?_)
      refine TL.gv rfl rfl rfl (fun hg => by subst hg; exact (Val.fieldAddr rfl fl100_1 sz3 rfl)) ?_
      refine TL.gv rfl rfl rfl (fun hg => by subst hg; exact (Val.load 0 rfl ag3 rfl rfl)) ?_
      refine TL.gv rfl rfl rfl (fun hg => by subst hg; exact (Val.move rfl)) ?_
      refine TL.gv rfl rfl rfl (fun hg => by subst hg; exact (Val.eqlI rfl rfl)) ?_
      refine TL.v (Val.pickAnd rfl rfl rfl) ?_
      refine TL.nt ?_
      refine TC.cond rfl (fun c3 => ?_) (fun c3 => ?_)
      · skip
        have hsel : selS x ((w : Nat) : Int) me e y = true := by subst_vars; rw [selS, Bool.and_comm (decide _) (!y)]; exact c3
        have hlen : (honTo l kept me e w ++ honIn kept (w : Nat) me e y (j + 1)).length = (honTo l kept me e w ++ honIn kept (w : Nat) me e y j).length + 1 := by rw [hon_t hx hsel]; simp; omega
        have hmap : (honTo l kept me e w ++ honIn kept (w : Nat) me e y (j + 1)).map (Value.int .i64) = (honTo l kept me e w ++ honIn kept (w : Nat) me e y j).map (Value.int .i64) ++ [Value.int .i64 x.value] := by rw [hon_t hx hsel]; simp
        refine TC.region ?_
        refine TL.v (Val.move rfl) ?_
        refine TL.v (Val.fieldAddr rfl fl100_3 sz2 rfl) ?_
        refine TL.v (Val.load 0 rfl ag2 rfl rfl) ?_
        refine TL.d (Does.buildSlice sl36 sz2 ze2 (by decide) (by decide) rfl rfl rfl) ?_
        rintro _ _ ⟨b5, rfl, rfl⟩
        refine TL.d (Does.appendS (xs := (honTo l kept me e w ++ honIn kept (w : Nat) me e y j).map (Value.int .i64)) (ys := [Value.int .i64 x.value]) τ H (ro_tail (ro_tail ro_refl)) rfl rfl sl36 sz2 by2 ze2 rfl hok (.inl ⟨_, _, rfl, ⟨2, us36⟩, .some (Rd.get (i := 0) rfl rfl)⟩) rfl (one_int _ _) (by rw [List.length_append]; omega) (by rw [List.length_append]; omega)) ?_
        rintro _ _ ⟨τ1, rfl, hok1, rfl⟩
        refine TL.v (Val.assign rfl) ?_
        refine TL.nil ?_
        refine AtX.blk ?_
        refine AtX.then ?_
        refine TC.region ?_
        refine TL.v (Val.move rfl) ?_
        refine TL.v (Val.add rfl rfl (w_i64 (by omega) (by omega))) ?_
        refine TL.v (Val.assign rfl) ?_
        refine TL.nil ?_
        refine AtX.round (i := (j, τ)) (j + 1, τ1) ?_ ?_ (Sub.cons rfl (Sub.cons rfl (Sub.cons rfl (Sub.cons (by dsimp only; rw [hlen]; rfl) (Sub.cons rfl (Sub.cons rfl (Sub.nil _))))))) (fun w h => by dsimp only; rw [hmap]; exact h)
        · exact ⟨by omega, by dsimp only; rw [hlen, hmap]; exact hok1⟩
        · show kept.length - (j + 1) < kept.length - j; omega
      · skip
        refine TC.skip ?_
        refine AtX.blk ?_
        refine AtX.then ?_
        refine TC.region ?_
        refine TL.v (Val.move rfl) ?_
        refine TL.v (Val.add rfl rfl (w_i64 (by omega) (by omega))) ?_
        refine TL.v (Val.assign rfl) ?_
        refine TL.nil ?_
        refine AtX.round (i := (j, τ)) (j + 1, τ) ?_ ?_ (Sub.cons rfl (Sub.cons rfl (Sub.cons rfl (Sub.cons (by dsimp only; rw [hon_f hx (show selS x ((w : Nat) : Int) me e y = false by subst_vars; rw [selS, Bool.and_comm (decide _) (!y)]; exact c3)]; rfl) (Sub.cons rfl (Sub.cons rfl (Sub.nil _))))))) (fun ww h => by dsimp only; rw [hon_f hx (show selS x ((w : Nat) : Int) me e y = false by subst_vars; rw [selS, Bool.and_comm (decide _) (!y)]; exact c3)]; exact h.drop)
        · exact ⟨by omega, by dsimp only; rw [hon_f hx (show selS x ((w : Nat) : Int) me e y = false by subst_vars; rw [selS, Bool.and_comm (decide _) (!y)]; exact c3)]; exact hok⟩
        · show kept.length - (j + 1) < kept.length - j; omega
    · skip
      refine TC.exit ?_
      refine AtX.seqX ?_
      refine AtX.seqX ?_
      refine AtX.hit ?_
      refine AtX.blk ?_
      refine AtX.then ?_
      have hjk : j = kept.length := by omega
      subst hjk
      refine TC.region ?_
      refine TL.v (Val.move rfl) ?_
      refine TL.v (Val.add rfl rfl (w_i64 (by omega) (by omega))) ?_
      refine TL.v (Val.assign rfl) ?_
      refine TL.nil ?_
      refine AtX.round (i := (w, τ0)) (w + 1, τ) ?_ ?_ (Sub.cons rfl (Sub.cons rfl (Sub.cons rfl (Sub.cons (by dsimp only; rw [hon_S hy]; rfl) (Sub.cons rfl (Sub.nil _)))))) (fun w h => by dsimp only; rw [hon_S hy]; exact h)
      · exact ⟨by omega, by dsimp only; rw [hon_S hy]; exact hok⟩
      · show l.length - (w + 1) < l.length - w; omega
  · skip
    refine TC.exit ?_
    refine AtX.seqX ?_
    refine AtX.seqX ?_
    refine AtX.hit ?_
    refine AtX.then ?_
    refine TC.en (E' := [(7, _)]) ?_
    refine TC.seq ?_
    have hwl : w = l.length := by omega
    subst hwl
    refine TC.region ?_
    refine TL.v (Val.move rfl) ?_
    refine TL.v (Val.assign rfl) ?_
    refine TL.nt ?_
    refine TC.r1 (hM := (fun _ h => h)) (fn := Try.f28) (fun _ _ h => h) rfl (RV.tmp rfl) ?_
    exact ⟨τ0, rfl, hok0, rfl⟩

end Go.Proofs.Ytphoapajlcaoeaa
/- walks -/
set_option linter.unusedVariables false
set_option linter.unusedSimpArgs false
set_option maxRecDepth 100000
set_option maxHeartbeats 4000000
namespace Go.Proofs.Ytphoapajlcaoeaa
open Go Go.X
/-- (*quorumite/quorumiteref22.World).Rotate -/
theorem rRotate_out (b i : Nat) (c : Cf) (A : Option Addr) (nl cl bb : Nat) (σ : Sl) (nk N : Nat) (H : Hp) (hi : H[i]? = some (rwo b c A nl cl bb N σ nk)) (hN : c.n = (N : Nat)) (k : Int) (hk : k < 0 ∨ (N : Int) ≤ k) (e : Int) : FnC Try.prog 21 #[.pointer (some ⟨b, 0, none⟩), .int .i64 k, .int .i64 e] H (fun v M' => v = .tuple #[.string (ofL []), .int .i64 3] ∧ H = M') := by
  refine FnC.intro Try.func21 rfl 30 rfl (by simp) (fun z => ?_)
  refine TC.env (E' := [(0, _), (1, _), (2, _)]) (Sub.cons rfl (Sub.cons rfl (Sub.cons rfl (Sub.nil _)))) ?_
  refine TC.sr ?_
  refine TL.v (Val.assign rfl) ?_
  refine TL.v (Val.assign rfl) ?_
  refine TL.nt ?_
  refine TC.seq ?_
  refine TC.sr ?_
  refine TL.v (Val.move rfl) ?_
  refine TL.v (Val.lss rfl rfl) ?_
  refine TL.v (Val.move rfl) ?_
  refine TL.gen (fun g1 hg1 => ?_)
  refine TL.gv rfl rfl rfl (fun hg => by subst hg; exact (Val.move rfl)) ?_
  refine TL.gv rfl rfl rfl (fun hg => by subst hg; exact (Val.move rfl)) ?_
  refine TL.gv rfl rfl rfl (fun hg => by subst hg; exact (Val.nilCheck rfl)) ?_
  refine TL.gv rfl rfl rfl (fun hg => by subst hg; exact (Val.fieldAddr rfl fl105_0 sz26 rfl)) ?_
  refine TL.gv rfl rfl rfl (fun hg => by subst hg; exact (Val.fieldAddr rfl fl26_0 sz3 rfl)) ?_
  refine TL.gv rfl rfl rfl (fun hg => by subst hg; exact (Val.load i rfl ag3 hi rfl)) ?_
  refine TL.gv rfl rfl rfl (fun hg => by subst hg; exact (Val.geq rfl rfl)) ?_
  refine TL.v (Val.pickOr rfl rfl rfl) ?_
  refine TL.nt ?_
  refine TC.en (E' := [(0, _), (1, _), (2, _), (6, _), (7, _), (18, _)]) ?_
  refine TC.cond rfl (fun c1 => ?_) (fun c1 => ?_)
  · skip
    refine TC.sr ?_
    refine TL.v (Val.assign rfl) ?_
    refine TL.v (Val.assign rfl) ?_
    refine TL.nt ?_
    refine TC.r2 (M' := H) (fn := Try.f21) (fun _ _ h => h) rfl (RV.tmp rfl) (RV.tmp rfl) ?_
    exact ⟨rfl, rfl⟩
  · skip
    (exfalso; grind)

/-- (*quorumite/quorumiteref22.World).Rotate -/
theorem rRotate_yes (b i : Nat) (c : Cf) (A : Option Addr) (nl cl bb : Nat) (σ : Sl) (nk N : Nat) (H : Hp) (hi : H[i]? = some (rwo b c A nl cl bb N σ nk)) (hN : c.n = (N : Nat)) (jl js : Nat) (bl sb : Nat) (ps spl : List Value) (hpl : ps.length = N) (hA : A = some ⟨bl, 0, none⟩) (hnl : nl = N) (hlr : H[jl]? = some (bl, row 106 (ps ++ spl))) (k : Nat) (hp : ps[k]? = some (.pointer (some ⟨sb, 0, none⟩))) (s g q : Int) (hs : H[js]? = some (rsO sb s (k : Nat) g q)) (hq : 0 ≤ q ∧ q ≤ 1099511627776) (hg : -1 ≤ g ∧ g ≤ 1000000) (e : Int) (hm : mayM ⟨2, (k : Nat), g + 1, q + 1, e, 0, 0⟩ = true) : FnC Try.prog 21 #[.pointer (some ⟨b, 0, none⟩), .int .i64 (k : Nat), .int .i64 e] H (fun u M' => u = .tuple #[.string (ofL (sealB (macKey s (k : Nat) g) ⟨2, (k : Nat), g + 1, q + 1, e, 0, 0⟩)), .int .i64 0] ∧ M' = H.set js (rsO sb s (k : Nat) (g + 1) 0)) := by
  subst hA
  subst hnl
  have hR := rd_row0 hlr
  have hkp : k < ps.length := (List.getElem?_eq_some_iff.1 hp).1
  refine FnC.intro Try.func21 rfl 30 rfl (by simp) (fun z => ?_)
  refine TC.env (E' := [(0, _), (1, _), (2, _)]) (Sub.cons rfl (Sub.cons rfl (Sub.cons rfl (Sub.nil _)))) ?_
  refine TC.sr ?_
  refine TL.v (Val.assign rfl) ?_
  refine TL.v (Val.assign rfl) ?_
  refine TL.nt ?_
  refine TC.seq ?_
  refine TC.sr ?_
  refine TL.v (Val.move rfl) ?_
  refine TL.v (Val.lss rfl rfl) ?_
  refine TL.v (Val.move rfl) ?_
  refine TL.gen (fun g1 hg1 => ?_)
  refine TL.gv rfl rfl rfl (fun hg => by subst hg; exact (Val.move rfl)) ?_
  refine TL.gv rfl rfl rfl (fun hg => by subst hg; exact (Val.move rfl)) ?_
  refine TL.gv rfl rfl rfl (fun hg => by subst hg; exact (Val.nilCheck rfl)) ?_
  refine TL.gv rfl rfl rfl (fun hg => by subst hg; exact (Val.fieldAddr rfl fl105_0 sz26 rfl)) ?_
  refine TL.gv rfl rfl rfl (fun hg => by subst hg; exact (Val.fieldAddr rfl fl26_0 sz3 rfl)) ?_
  refine TL.gv rfl rfl rfl (fun hg => by subst hg; exact (Val.load i rfl ag3 hi rfl)) ?_
  refine TL.gv rfl rfl rfl (fun hg => by subst hg; exact (Val.geq rfl rfl)) ?_
  refine TL.v (Val.pickOr rfl rfl rfl) ?_
  refine TL.nt ?_
  refine TC.en (E' := [(0, _), (1, _), (2, _), (6, _), (7, _), (18, _)]) ?_
  refine TC.cond rfl (fun c1 => ?_) (fun c1 => ?_)
  · skip
    (exfalso; grind)
  · skip
    refine TC.skip ?_
    refine AtX.then ?_
    refine TC.sr ?_
    refine TL.v (Val.move rfl) ?_
    refine TL.v (Val.nilCheck rfl) ?_
    refine TL.v (Val.fieldAddr rfl fl105_1 sz103 rfl) ?_
    refine TL.v (Val.load i rfl ag103 hi rfl) ?_
    refine TL.v (Val.move rfl) ?_
    refine TL.v (Val.indexAddr (i := k) (r := k) rfl rfl sl103 sz106 rfl (by omega) (by omega)) ?_
    refine TL.v (Val.loadRd (o := 0) (j := k) rfl ag106 hR (by omega) hp) ?_
    refine TL.v (Val.move rfl) ?_
    refine TL.d (Does.callF go57 rfl (refSR_yes sb js s (k : Nat) g q _ hs hq hg e hm)) ?_
    rintro _ _ ⟨rfl, rfl⟩
    refine TL.v (Val.extract rfl rfl) ?_
    refine TL.v (Val.extract rfl rfl) ?_
    refine TL.v (Val.assign rfl) ?_
    refine TL.v (Val.assign rfl) ?_
    refine TL.nt ?_
    refine TC.en (E' := [(6, _), (7, _)]) ?_
    refine TC.r2 (hM := (fun _ h => h)) (fn := Try.f21) (fun _ _ h => h) rfl (RV.tmp rfl) (RV.tmp rfl) ?_
    exact ⟨rfl, rfl⟩

/-- (*quorumite/quorumiteref22.World).Rotate -/
theorem rRotate_no (b i : Nat) (c : Cf) (A : Option Addr) (nl cl bb : Nat) (σ : Sl) (nk N : Nat) (H : Hp) (hi : H[i]? = some (rwo b c A nl cl bb N σ nk)) (hN : c.n = (N : Nat)) (jl js : Nat) (bl sb : Nat) (ps spl : List Value) (hpl : ps.length = N) (hA : A = some ⟨bl, 0, none⟩) (hnl : nl = N) (hlr : H[jl]? = some (bl, row 106 (ps ++ spl))) (k : Nat) (hp : ps[k]? = some (.pointer (some ⟨sb, 0, none⟩))) (s g q : Int) (hs : H[js]? = some (rsO sb s (k : Nat) g q)) (hq : 0 ≤ q ∧ q ≤ 1099511627776) (hg : -1 ≤ g ∧ g ≤ 1000000) (e : Int) (hm : mayM ⟨2, (k : Nat), g + 1, q + 1, e, 0, 0⟩ = false) : FnC Try.prog 21 #[.pointer (some ⟨b, 0, none⟩), .int .i64 (k : Nat), .int .i64 e] H (fun u M' => u = .tuple #[.string (ofL []), .int .i64 1] ∧ H = M') := by
  subst hA
  subst hnl
  have hR := rd_row0 hlr
  have hkp : k < ps.length := (List.getElem?_eq_some_iff.1 hp).1
  refine FnC.intro Try.func21 rfl 30 rfl (by simp) (fun z => ?_)
  refine TC.env (E' := [(0, _), (1, _), (2, _)]) (Sub.cons rfl (Sub.cons rfl (Sub.cons rfl (Sub.nil _)))) ?_
  refine TC.sr ?_
  refine TL.v (Val.assign rfl) ?_
  refine TL.v (Val.assign rfl) ?_
  refine TL.nt ?_
  refine TC.seq ?_
  refine TC.sr ?_
  refine TL.v (Val.move rfl) ?_
  refine TL.v (Val.lss rfl rfl) ?_
  refine TL.v (Val.move rfl) ?_
  refine TL.gen (fun g1 hg1 => ?_)
  refine TL.gv rfl rfl rfl (fun hg => by subst hg; exact (Val.move rfl)) ?_
  refine TL.gv rfl rfl rfl (fun hg => by subst hg; exact (Val.move rfl)) ?_
  refine TL.gv rfl rfl rfl (fun hg => by subst hg; exact (Val.nilCheck rfl)) ?_
  refine TL.gv rfl rfl rfl (fun hg => by subst hg; exact (Val.fieldAddr rfl fl105_0 sz26 rfl)) ?_
  refine TL.gv rfl rfl rfl (fun hg => by subst hg; exact (Val.fieldAddr rfl fl26_0 sz3 rfl)) ?_
  refine TL.gv rfl rfl rfl (fun hg => by subst hg; exact (Val.load i rfl ag3 hi rfl)) ?_
  refine TL.gv rfl rfl rfl (fun hg => by subst hg; exact (Val.geq rfl rfl)) ?_
  refine TL.v (Val.pickOr rfl rfl rfl) ?_
  refine TL.nt ?_
  refine TC.en (E' := [(0, _), (1, _), (2, _), (6, _), (7, _), (18, _)]) ?_
  refine TC.cond rfl (fun c1 => ?_) (fun c1 => ?_)
  · skip
    (exfalso; grind)
  · skip
    refine TC.skip ?_
    refine AtX.then ?_
    refine TC.sr ?_
    refine TL.v (Val.move rfl) ?_
    refine TL.v (Val.nilCheck rfl) ?_
    refine TL.v (Val.fieldAddr rfl fl105_1 sz103 rfl) ?_
    refine TL.v (Val.load i rfl ag103 hi rfl) ?_
    refine TL.v (Val.move rfl) ?_
    refine TL.v (Val.indexAddr (i := k) (r := k) rfl rfl sl103 sz106 rfl (by omega) (by omega)) ?_
    refine TL.v (Val.loadRd (o := 0) (j := k) rfl ag106 hR (by omega) hp) ?_
    refine TL.v (Val.move rfl) ?_
    refine TL.d (Does.callF go57 rfl (refSR_no sb js s (k : Nat) g q _ hs hq hg e hm)) ?_
    rintro _ _ ⟨rfl, rfl⟩
    refine TL.v (Val.extract rfl rfl) ?_
    refine TL.v (Val.extract rfl rfl) ?_
    refine TL.v (Val.assign rfl) ?_
    refine TL.v (Val.assign rfl) ?_
    refine TL.nt ?_
    refine TC.en (E' := [(6, _), (7, _)]) ?_
    refine TC.r2 (hM := (fun _ h => h)) (fn := Try.f21) (fun _ _ h => h) rfl (RV.tmp rfl) (RV.tmp rfl) ?_
    exact ⟨rfl, rfl⟩

/-- (*quorumite/quorumiteref22.World).Forge -/
theorem rForge_out (b i : Nat) (c : Cf) (A : Option Addr) (nl cl bb : Nat) (σ : Sl) (nk N : Nat) (H : Hp) (hi : H[i]? = some (rwo b c A nl cl bb N σ nk)) (hN : c.n = (N : Nat)) (k : Int) (hk : k < 0 ∨ (N : Int) ≤ k) (me e v sq gn : Int)  : FnC Try.prog 24 #[.pointer (some ⟨b, 0, none⟩), .int .i64 k, .int .i64 me, .int .i64 e, .int .i64 v, .int .i64 sq, .int .i64 gn] H (fun v M' => v = .tuple #[.string (ofL []), .int .i64 3] ∧ H = M') := by
  refine FnC.intro Try.func24 rfl 57 rfl (by simp) (fun z => ?_)
  refine TC.env (E' := [(0, _), (1, _), (2, _), (3, _), (4, _), (5, _), (6, _)]) (Sub.cons rfl (Sub.cons rfl (Sub.cons rfl (Sub.cons rfl (Sub.cons rfl (Sub.cons rfl (Sub.cons rfl (Sub.nil _)))))))) ?_
  refine TC.sr ?_
  refine TL.v (Val.assign rfl) ?_
  refine TL.v (Val.assign rfl) ?_
  refine TL.nt ?_
  refine TC.seq ?_
  refine TC.sr ?_
  refine TL.v (Val.move rfl) ?_
  refine TL.v (Val.lss rfl rfl) ?_
  refine TL.v (Val.move rfl) ?_
  refine TL.gen (fun g1 hg1 => ?_)
  refine TL.gv rfl rfl rfl (fun hg => by subst hg; exact (Val.move rfl)) ?_
  refine TL.gv rfl rfl rfl (fun hg => by subst hg; exact (Val.move rfl)) ?_
  refine TL.gv rfl rfl rfl (fun hg => by subst hg; exact (Val.nilCheck rfl)) ?_
  refine TL.gv rfl rfl rfl (fun hg => by subst hg; exact (Val.fieldAddr rfl fl105_0 sz26 rfl)) ?_
  refine TL.gv rfl rfl rfl (fun hg => by subst hg; exact (Val.fieldAddr rfl fl26_0 sz3 rfl)) ?_
  refine TL.gv rfl rfl rfl (fun hg => by subst hg; exact (Val.load i rfl ag3 hi rfl)) ?_
  refine TL.gv rfl rfl rfl (fun hg => by subst hg; exact (Val.geq rfl rfl)) ?_
  refine TL.v (Val.same (v' := .bool true) (Val.pickOr rfl rfl rfl) (congrArg Value.bool (by subst_vars; grind))) ?_
  refine TL.v (Val.move rfl) ?_
  refine TL.pa ?_
  refine TL.pa ?_
  refine TL.pa ?_
  refine TL.pa ?_
  refine TL.pa ?_
  refine TL.pa ?_
  refine TL.pa ?_
  refine TL.pa ?_
  refine TL.v (Val.pick rfl rfl rfl) ?_
  refine TL.nt ?_
  refine TC.en (E' := [(0, _), (1, _), (2, _), (3, _), (4, _), (5, _), (6, _), (14, _), (15, _), (37, _)]) ?_
  refine TC.cond rfl (fun c1 => ?_) (fun c1 => ?_)
  · skip
    refine TC.sr ?_
    refine TL.v (Val.assign rfl) ?_
    refine TL.v (Val.assign rfl) ?_
    refine TL.nt ?_
    refine TC.r2 (M' := H) (fn := Try.f24) (fun _ _ h => h) rfl (RV.tmp rfl) (RV.tmp rfl) ?_
    exact ⟨rfl, rfl⟩
  · skip
    (exfalso; simp at c1)

/-- (*quorumite/quorumiteref22.World).Forge -/
theorem rForge_nb (b i j : Nat) (c : Cf) (A : Option Addr) (nl cl bb : Nat) (σ : Sl) (nk : Nat) (l : List Bool) (H : Hp) (hi : H[i]? = some (rwo b c A nl cl bb l.length σ nk)) (hj : H[j]? = some (bb, row 4 (l.map Value.bool))) (hN : c.n = (l.length : Nat)) (hl : l.length ≤ 100) (k : Nat) (hk : k < l.length) (hx : l[k]? = some false) (me e v sq gn : Int)  : FnC Try.prog 24 #[.pointer (some ⟨b, 0, none⟩), .int .i64 (k : Nat), .int .i64 me, .int .i64 e, .int .i64 v, .int .i64 sq, .int .i64 gn] H (fun v M' => v = .tuple #[.string (ofL []), .int .i64 3] ∧ H = M') := by
  have hR := rd_rowA hj
  refine FnC.intro Try.func24 rfl 57 rfl (by simp) (fun z => ?_)
  refine TC.env (E' := [(0, _), (1, _), (2, _), (3, _), (4, _), (5, _), (6, _)]) (Sub.cons rfl (Sub.cons rfl (Sub.cons rfl (Sub.cons rfl (Sub.cons rfl (Sub.cons rfl (Sub.cons rfl (Sub.nil _)))))))) ?_
  refine TC.sr ?_
  refine TL.v (Val.assign rfl) ?_
  refine TL.v (Val.assign rfl) ?_
  refine TL.nt ?_
  refine TC.seq ?_
  refine TC.sr ?_
  refine TL.v (Val.move rfl) ?_
  refine TL.v (Val.same (v' := .bool false) (Val.lss rfl rfl) (congrArg Value.bool (decide_eq_false (by omega)))) ?_
  refine TL.v (Val.move rfl) ?_
  refine TL.vy (Val.move rfl) ?_
  refine TL.vy (Val.move rfl) ?_
  refine TL.vy (Val.nilCheck rfl) ?_
  refine TL.vy (Val.fieldAddr rfl fl105_0 sz26 rfl) ?_
  refine TL.vy (Val.fieldAddr rfl fl26_0 sz3 rfl) ?_
  refine TL.vy (Val.load i rfl ag3 hi rfl) ?_
  refine TL.vy (Val.same (v' := .bool false) (Val.geq rfl rfl) (congrArg Value.bool (decide_eq_false (by omega)))) ?_
  refine TL.v (Val.pickOr rfl rfl rfl) ?_
  refine TL.v (Val.move rfl) ?_
  refine TL.vy (Val.move rfl) ?_
  refine TL.vy (Val.nilCheck rfl) ?_
  refine TL.vy (Val.fieldAddr rfl fl105_2 sz85 rfl) ?_
  refine TL.vy (Val.load i rfl ag85 hi rfl) ?_
  refine TL.vy (Val.move rfl) ?_
  refine TL.vy (Val.indexAddr (i := k) (r := k) rfl rfl sl85 sz4 rfl hk (by omega)) ?_
  refine TL.vy (Val.loadRd (o := 0) (j := k) (v := .bool false) rfl ag4 hR (by omega) (map_get hx)) ?_
  refine TL.vy (Val.not rfl) ?_
  refine TL.v (Val.pickOr rfl rfl rfl) ?_
  refine TL.nt ?_
  refine TC.en (E' := [(0, _), (1, _), (2, _), (3, _), (4, _), (5, _), (6, _), (14, _), (15, _), (37, _)]) ?_
  refine TC.cond rfl (fun c1 => ?_) (fun c1 => ?_)
  · skip
    refine TC.sr ?_
    refine TL.v (Val.assign rfl) ?_
    refine TL.v (Val.assign rfl) ?_
    refine TL.nt ?_
    refine TC.r2 (M' := H) (fn := Try.f24) (fun _ _ h => h) rfl (RV.tmp rfl) (RV.tmp rfl) ?_
    exact ⟨rfl, rfl⟩
  · skip
    (exfalso; simp at c1)

/-- (*quorumite/quorumiteref22.World).Forge -/
theorem rForge_yes (b i j : Nat) (c : Cf) (A : Option Addr) (nl cl bb : Nat) (σ : Sl) (nk : Nat) (l : List Bool) (H : Hp) (hi : H[i]? = some (rwo b c A nl cl bb l.length σ nk)) (hj : H[j]? = some (bb, row 4 (l.map Value.bool))) (hN : c.n = (l.length : Nat)) (hl : l.length ≤ 100) (k : Nat) (hk : k < l.length) (hx : l[k]? = some true) (me e v sq gn : Int) (hm : mayM ⟨1, (k : Nat), gn, sq, e, v, me⟩ = true) : FnC Try.prog 24 #[.pointer (some ⟨b, 0, none⟩), .int .i64 (k : Nat), .int .i64 me, .int .i64 e, .int .i64 v, .int .i64 sq, .int .i64 gn] H (fun u M' => u = .tuple #[.string (ofL (sealB (macKey c.seed (k : Nat) gn) ⟨1, (k : Nat), gn, sq, e, v, me⟩)), .int .i64 0] ∧ H = M') := by
  have hR := rd_rowA hj
  refine FnC.intro Try.func24 rfl 57 rfl (by simp) (fun z => ?_)
  refine TC.env (E' := [(0, _), (1, _), (2, _), (3, _), (4, _), (5, _), (6, _)]) (Sub.cons rfl (Sub.cons rfl (Sub.cons rfl (Sub.cons rfl (Sub.cons rfl (Sub.cons rfl (Sub.cons rfl (Sub.nil _)))))))) ?_
  refine TC.sr ?_
  refine TL.v (Val.assign rfl) ?_
  refine TL.v (Val.assign rfl) ?_
  refine TL.nt ?_
  refine TC.seq ?_
  refine TC.sr ?_
  refine TL.v (Val.move rfl) ?_
  refine TL.v (Val.same (v' := .bool false) (Val.lss rfl rfl) (congrArg Value.bool (decide_eq_false (by omega)))) ?_
  refine TL.v (Val.move rfl) ?_
  refine TL.vy (Val.move rfl) ?_
  refine TL.vy (Val.move rfl) ?_
  refine TL.vy (Val.nilCheck rfl) ?_
  refine TL.vy (Val.fieldAddr rfl fl105_0 sz26 rfl) ?_
  refine TL.vy (Val.fieldAddr rfl fl26_0 sz3 rfl) ?_
  refine TL.vy (Val.load i rfl ag3 hi rfl) ?_
  refine TL.vy (Val.same (v' := .bool false) (Val.geq rfl rfl) (congrArg Value.bool (decide_eq_false (by omega)))) ?_
  refine TL.v (Val.pickOr rfl rfl rfl) ?_
  refine TL.v (Val.move rfl) ?_
  refine TL.vy (Val.move rfl) ?_
  refine TL.vy (Val.nilCheck rfl) ?_
  refine TL.vy (Val.fieldAddr rfl fl105_2 sz85 rfl) ?_
  refine TL.vy (Val.load i rfl ag85 hi rfl) ?_
  refine TL.vy (Val.move rfl) ?_
  refine TL.vy (Val.indexAddr (i := k) (r := k) rfl rfl sl85 sz4 rfl hk (by omega)) ?_
  refine TL.vy (Val.loadRd (o := 0) (j := k) (v := .bool true) rfl ag4 hR (by omega) (map_get hx)) ?_
  refine TL.vy (Val.not rfl) ?_
  refine TL.v (Val.pickOr rfl rfl rfl) ?_
  refine TL.nt ?_
  refine TC.en (E' := [(0, _), (1, _), (2, _), (3, _), (4, _), (5, _), (6, _), (14, _), (15, _), (37, _)]) ?_
  refine TC.cond rfl (fun c1 => ?_) (fun c1 => ?_)
  · skip
    (exfalso; simp at c1)
  · skip
    refine TC.skip ?_
    refine AtX.then ?_
    refine TC.sr ?_
    refine TL.v (Val.move rfl) ?_
    refine TL.v (Val.move rfl) ?_
    refine TL.v (Val.move rfl) ?_
    refine TL.v (Val.move rfl) ?_
    refine TL.v (Val.move rfl) ?_
    refine TL.v (Val.move rfl) ?_
    refine TL.v (Val.buildS pl61 ze61 rfl rfl) ?_
    refine TL.d (Does.alloc ze61 rfl) ?_
    rintro _ _ ⟨b1, rfl, rfl⟩
    refine TL.d (Does.store (i := 0) rfl rfl rfl sz61 rfl rfl (by first | exact Nat.le_of_ble_eq_true rfl | decide | omega) rfl rfl) ?_
    rintro _ _ ⟨rfl, rfl⟩
    refine TL.nt ?_
    refine TC.en (E' := [(0, _), (1, _), (6, _), (14, _), (15, _), (16, _)]) ?_
    refine TC.seq ?_
    refine TC.drawLM mixed 14 ?_
    refine TA.tk 0 1 rfl rfl rfl (Val.move rfl) ?_ (hro := ro_s)
    refine TA.tk 1 3 rfl rfl rfl (Val.nilCheck rfl) ?_ (hro := ro_s)
    refine TA.tk 2 7 rfl rfl rfl (Val.fieldAddr rfl fl105_0 sz26 rfl) ?_ (hro := ro_s)
    refine TA.tk 3 15 rfl rfl rfl (Val.fieldAddr rfl fl26_22 sz24 rfl) ?_ (hro := ro_s)
    refine TA.tk 4 31 rfl rfl rfl (Val.load (i + 1) rfl ag24 hi rfl) ?_ (hro := ro_s)
    refine TA.tk 5 63 rfl rfl rfl (Val.move rfl) ?_ (hro := ro_s)
    refine TA.tk 6 127 rfl rfl rfl (Val.move rfl) ?_ (hro := ro_s)
    refine TA.tk 8 383 rfl rfl rfl (Val.loadAgg 0 rfl ag61 sz61 rfl rfl rfl) ?_ (hro := ro_s)
    refine TA.one 7 (by kernel_rfl) ?_
    refine TO.dz 511 (some 52) rfl rfl rfl rfl (Does.callF go59 rfl (refOf_fn c.seed (k : Nat) gn _)) ?_
    rintro _ _ ⟨rfl, rfl⟩
    refine ⟨ro_s, ?_⟩
    refine TA.one 9 (by kernel_rfl) ?_
    refine TO.dz 1023 (some 54) rfl rfl rfl rfl (Does.callF go58 rfl (refSeal_yes (macKey c.seed (k : Nat) gn) ⟨1, (k : Nat), gn, sq, e, v, me⟩ _ hm)) ?_
    rintro _ _ ⟨rfl, rfl⟩
    refine ⟨ro_s, ?_⟩
    refine TA.tk 10 2047 rfl rfl rfl (Val.extract rfl rfl) ?_ (hro := ro_s)
    refine TA.tk 11 4095 rfl rfl rfl (Val.extract rfl rfl) ?_ (hro := ro_s)
    refine TA.tk 12 8191 rfl rfl rfl (Val.assign rfl) ?_ (hro := ro_s)
    refine TA.tk 13 16383 rfl rfl rfl (Val.assign rfl) ?_ (hro := ro_s)
    refine TA.done (by kernel_rfl) ?_
    refine AtX.then ?_
    refine TC.en (E' := [(14, _), (15, _)]) ?_
    refine TC.r2 (M' := H) (fn := Try.f24) (fun _ _ h => h) rfl (RV.tmp rfl) (RV.tmp rfl) ?_
    exact ⟨rfl, rfl⟩

/-- (*quorumite/quorumiteref22.World).Forge -/
theorem rForge_no (b i j : Nat) (c : Cf) (A : Option Addr) (nl cl bb : Nat) (σ : Sl) (nk : Nat) (l : List Bool) (H : Hp) (hi : H[i]? = some (rwo b c A nl cl bb l.length σ nk)) (hj : H[j]? = some (bb, row 4 (l.map Value.bool))) (hN : c.n = (l.length : Nat)) (hl : l.length ≤ 100) (k : Nat) (hk : k < l.length) (hx : l[k]? = some true) (me e v sq gn : Int) (hm : mayM ⟨1, (k : Nat), gn, sq, e, v, me⟩ = false) : FnC Try.prog 24 #[.pointer (some ⟨b, 0, none⟩), .int .i64 (k : Nat), .int .i64 me, .int .i64 e, .int .i64 v, .int .i64 sq, .int .i64 gn] H (fun v M' => v = .tuple #[.string (ofL []), .int .i64 1] ∧ H = M') := by
  have hR := rd_rowA hj
  refine FnC.intro Try.func24 rfl 57 rfl (by simp) (fun z => ?_)
  refine TC.env (E' := [(0, _), (1, _), (2, _), (3, _), (4, _), (5, _), (6, _)]) (Sub.cons rfl (Sub.cons rfl (Sub.cons rfl (Sub.cons rfl (Sub.cons rfl (Sub.cons rfl (Sub.cons rfl (Sub.nil _)))))))) ?_
  refine TC.sr ?_
  refine TL.v (Val.assign rfl) ?_
  refine TL.v (Val.assign rfl) ?_
  refine TL.nt ?_
  refine TC.seq ?_
  refine TC.sr ?_
  refine TL.v (Val.move rfl) ?_
  refine TL.v (Val.same (v' := .bool false) (Val.lss rfl rfl) (congrArg Value.bool (decide_eq_false (by omega)))) ?_
  refine TL.v (Val.move rfl) ?_
  refine TL.vy (Val.move rfl) ?_
  refine TL.vy (Val.move rfl) ?_
  refine TL.vy (Val.nilCheck rfl) ?_
  refine TL.vy (Val.fieldAddr rfl fl105_0 sz26 rfl) ?_
  refine TL.vy (Val.fieldAddr rfl fl26_0 sz3 rfl) ?_
  refine TL.vy (Val.load i rfl ag3 hi rfl) ?_
  refine TL.vy (Val.same (v' := .bool false) (Val.geq rfl rfl) (congrArg Value.bool (decide_eq_false (by omega)))) ?_
  refine TL.v (Val.pickOr rfl rfl rfl) ?_
  refine TL.v (Val.move rfl) ?_
  refine TL.vy (Val.move rfl) ?_
  refine TL.vy (Val.nilCheck rfl) ?_
  refine TL.vy (Val.fieldAddr rfl fl105_2 sz85 rfl) ?_
  refine TL.vy (Val.load i rfl ag85 hi rfl) ?_
  refine TL.vy (Val.move rfl) ?_
  refine TL.vy (Val.indexAddr (i := k) (r := k) rfl rfl sl85 sz4 rfl hk (by omega)) ?_
  refine TL.vy (Val.loadRd (o := 0) (j := k) (v := .bool true) rfl ag4 hR (by omega) (map_get hx)) ?_
  refine TL.vy (Val.not rfl) ?_
  refine TL.v (Val.pickOr rfl rfl rfl) ?_
  refine TL.nt ?_
  refine TC.en (E' := [(0, _), (1, _), (2, _), (3, _), (4, _), (5, _), (6, _), (14, _), (15, _), (37, _)]) ?_
  refine TC.cond rfl (fun c1 => ?_) (fun c1 => ?_)
  · skip
    (exfalso; simp at c1)
  · skip
    refine TC.skip ?_
    refine AtX.then ?_
    refine TC.sr ?_
    refine TL.v (Val.move rfl) ?_
    refine TL.v (Val.move rfl) ?_
    refine TL.v (Val.move rfl) ?_
    refine TL.v (Val.move rfl) ?_
    refine TL.v (Val.move rfl) ?_
    refine TL.v (Val.move rfl) ?_
    refine TL.v (Val.buildS pl61 ze61 rfl rfl) ?_
    refine TL.d (Does.alloc ze61 rfl) ?_
    rintro _ _ ⟨b1, rfl, rfl⟩
    refine TL.d (Does.store (i := 0) rfl rfl rfl sz61 rfl rfl (by first | exact Nat.le_of_ble_eq_true rfl | decide | omega) rfl rfl) ?_
    rintro _ _ ⟨rfl, rfl⟩
    refine TL.nt ?_
    refine TC.en (E' := [(0, _), (1, _), (6, _), (14, _), (15, _), (16, _)]) ?_
    refine TC.seq ?_
    refine TC.drawLM mixed 14 ?_
    refine TA.tk 0 1 rfl rfl rfl (Val.move rfl) ?_ (hro := ro_s)
    refine TA.tk 1 3 rfl rfl rfl (Val.nilCheck rfl) ?_ (hro := ro_s)
    refine TA.tk 2 7 rfl rfl rfl (Val.fieldAddr rfl fl105_0 sz26 rfl) ?_ (hro := ro_s)
    refine TA.tk 3 15 rfl rfl rfl (Val.fieldAddr rfl fl26_22 sz24 rfl) ?_ (hro := ro_s)
    refine TA.tk 4 31 rfl rfl rfl (Val.load (i + 1) rfl ag24 hi rfl) ?_ (hro := ro_s)
    refine TA.tk 5 63 rfl rfl rfl (Val.move rfl) ?_ (hro := ro_s)
    refine TA.tk 6 127 rfl rfl rfl (Val.move rfl) ?_ (hro := ro_s)
    refine TA.tk 8 383 rfl rfl rfl (Val.loadAgg 0 rfl ag61 sz61 rfl rfl rfl) ?_ (hro := ro_s)
    refine TA.one 7 (by kernel_rfl) ?_
    refine TO.dz 511 (some 52) rfl rfl rfl rfl (Does.callF go59 rfl (refOf_fn c.seed (k : Nat) gn _)) ?_
    rintro _ _ ⟨rfl, rfl⟩
    refine ⟨ro_s, ?_⟩
    refine TA.one 9 (by kernel_rfl) ?_
    refine TO.dz 1023 (some 54) rfl rfl rfl rfl (Does.callF go58 rfl (refSeal_no (macKey c.seed (k : Nat) gn) ⟨1, (k : Nat), gn, sq, e, v, me⟩ _ hm)) ?_
    rintro _ _ ⟨rfl, rfl⟩
    refine ⟨ro_s, ?_⟩
    refine TA.tk 10 2047 rfl rfl rfl (Val.extract rfl rfl) ?_ (hro := ro_s)
    refine TA.tk 11 4095 rfl rfl rfl (Val.extract rfl rfl) ?_ (hro := ro_s)
    refine TA.tk 12 8191 rfl rfl rfl (Val.assign rfl) ?_ (hro := ro_s)
    refine TA.tk 13 16383 rfl rfl rfl (Val.assign rfl) ?_ (hro := ro_s)
    refine TA.done (by kernel_rfl) ?_
    refine AtX.then ?_
    refine TC.en (E' := [(14, _), (15, _)]) ?_
    refine TC.r2 (M' := H) (fn := Try.f24) (fun _ _ h => h) rfl (RV.tmp rfl) (RV.tmp rfl) ?_
    exact ⟨rfl, rfl⟩

end Go.Proofs.Ytphoapajlcaoeaa
