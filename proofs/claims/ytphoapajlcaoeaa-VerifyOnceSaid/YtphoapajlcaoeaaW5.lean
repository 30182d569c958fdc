/- Texts put together: A38, A39. -/
import Derived.Test.YtphoapajlcaoeaaW4
import Derived.Test.YtphoapajlcaoeaaG3
import Derived.Test.YtphoapajlcaoeaaG1
/- walks -/
set_option linter.unusedVariables false
set_option linter.unusedSimpArgs false
set_option maxRecDepth 100000
set_option maxHeartbeats 4000000
namespace Go.Proofs.Ytphoapajlcaoeaa
open Go Go.X
def eqbM (a b : Ms) : Bool := decide (a.kind = b.kind) && (decide (a.who = b.who) && (decide (a.gen = b.gen) && (decide (a.seq = b.seq) && (decide (a.epoch = b.epoch) && (decide (a.value = b.value) && (decide (a.metric = b.metric) && true))))))
theorem eqbM_self (a : Ms) : eqbM a a = true := by simp [eqbM]
theorem msEq (a b : Ms) : EqV Try.prog 2 61 (.agg #[.int .i64 a.kind, .int .i64 a.who, .int .i64 a.gen, .int .i64 a.seq, .int .i64 a.epoch, .int .i64 a.value, .int .i64 a.metric]) (.agg #[.int .i64 b.kind, .int .i64 b.who, .int .i64 b.gen, .int .i64 b.seq, .int .i64 b.epoch, .int .i64 b.value, .int .i64 b.metric]) (eqbM a b) :=
  EqV.struct (by kernel_rfl) (EqI.cons fl61_0 (by kernel_rfl) ag3 rfl rfl (.int in3) (EqI.cons fl61_1 (by kernel_rfl) ag3 rfl rfl (.int in3) (EqI.cons fl61_2 (by kernel_rfl) ag3 rfl rfl (.int in3) (EqI.cons fl61_3 (by kernel_rfl) ag2 rfl rfl (.int in2) (EqI.cons fl61_4 (by kernel_rfl) ag2 rfl rfl (.int in2) (EqI.cons fl61_5 (by kernel_rfl) ag2 rfl rfl (.int in2) (EqI.cons fl61_6 (by kernel_rfl) ag3 rfl rfl (.int in3) (EqI.done (Nat.le_of_ble_eq_true (by kernel_rfl))))))))))
theorem Val.eqlMs {N : Nat} {z : World} {E : Env} {M : Hp} {dst : Option Tmp} {ty : TypeId} {pos : String} {af : Array Edge} {gu : Option (Nat × Bool)} {yt : TypeId} {x y : Operand} {a b : Ms} (hx : ev E x = some (.agg #[.int .i64 a.kind, .int .i64 a.who, .int .i64 a.gen, .int .i64 a.seq, .int .i64 a.epoch, .int .i64 a.value, .int .i64 a.metric])) (hy : ev E y = some (.agg #[.int .i64 b.kind, .int .i64 b.who, .int .i64 b.gen, .int .i64 b.seq, .int .i64 b.epoch, .int .i64 b.value, .int .i64 b.metric])) :
    Go.X.Val Try.prog N z E M ⟨dst, .binOp .eql 61 x y yt, ty, pos, af, gu⟩ (.bool (eqbM a b)) :=
  Go.X.Val.eqlG hx hy (by kernel_rfl) (msEq a b) (by decide)
theorem Val.neqMs {N : Nat} {z : World} {E : Env} {M : Hp} {dst : Option Tmp} {ty : TypeId} {pos : String} {af : Array Edge} {gu : Option (Nat × Bool)} {yt : TypeId} {x y : Operand} {a b : Ms} (hx : ev E x = some (.agg #[.int .i64 a.kind, .int .i64 a.who, .int .i64 a.gen, .int .i64 a.seq, .int .i64 a.epoch, .int .i64 a.value, .int .i64 a.metric])) (hy : ev E y = some (.agg #[.int .i64 b.kind, .int .i64 b.who, .int .i64 b.gen, .int .i64 b.seq, .int .i64 b.epoch, .int .i64 b.value, .int .i64 b.metric])) :
    Go.X.Val Try.prog N z E M ⟨dst, .binOp .neq 61 x y yt, ty, pos, af, gu⟩ (.bool (!(eqbM a b))) :=
  Go.X.Val.neqG hx hy (by kernel_rfl) (msEq a b) (by decide)
theorem same_sym {t u : K2} (ht : (0 ≤ t.a ∧ t.a ≤ 18446744073709551615) ∧ (0 ≤ t.b ∧ t.b ≤ 18446744073709551615)) (hu : (0 ≤ u.a ∧ u.a ≤ 18446744073709551615) ∧ (0 ≤ u.b ∧ u.b ≤ 18446744073709551615)) :
    decide (bitsOf .or .u64 (xor64 u.a (get8 (tagB t) 0 : Nat)) (xor64 u.b (get8 (tagB t) 8 : Nat)) = 0) = decide (bitsOf .or .u64 (xor64 t.a u.a) (xor64 t.b u.b) = 0) := by
  obtain ⟨h1, h2⟩ := tagB_get ht.1 ht.2
  rw [h1, h2]
  apply decide_eq_decide.2
  rw [same_iff hu.1 ht.1 hu.2 ht.2, same_iff ht.1 hu.1 ht.2 hu.2]
  exact ⟨fun h => ⟨h.1.symm, h.2.symm⟩, fun h => ⟨h.1.symm, h.2.symm⟩⟩
theorem same_self {t : K2} (ht : (0 ≤ t.a ∧ t.a ≤ 18446744073709551615) ∧ (0 ≤ t.b ∧ t.b ≤ 18446744073709551615)) : bitsOf .or .u64 (xor64 t.a t.a) (xor64 t.b t.b) = 0 := (same_iff ht.1 ht.1 ht.2 ht.2).2 ⟨rfl, rfl⟩
theorem stale1 {f ep : Int} (h : 0 ≤ ep ∧ ep < f) (hf : f ≤ 8) : (decide (ep < 0) || decide (f ≤ IntKind.u64.wrap (ep - 0))) = false := by
  rw [decide_eq_false (by omega), decide_eq_false (by rw [w_u64 (by omega) (by omega)]; omega)]; rfl
/-- quorumite/quorumitelaw8.VerifyKeys -/
theorem VerifyKeys_fn (zs : List Int) (A : Option Addr) (n cA : Nat) (who by_ gen epoch value : Int) (M : Hp) (hA : RdS M A (zs.map (Value.int .i64))) (hn : n = zs.length) : FnC Try.prog 7 #[.slice A n cA, .int .i64 who, .int .i64 by_, .int .i64 gen, .int .i64 epoch, .int .i64 value] M (fun v M' => v = .bool true ∧ M = M') := by
  refine FnC.intro Try.func7 rfl 136 rfl (by simp) (fun z => ?_)
  refine TC.env (E' := [(0, _), (1, _), (2, _), (3, _), (4, _), (5, _)]) (Sub.cons rfl (Sub.cons rfl (Sub.cons rfl (Sub.cons rfl (Sub.cons rfl (Sub.cons rfl (Sub.nil _))))))) ?_
  refine TC.seq ?_
  refine TC.region ?_
  refine TL.val rfl rfl (Nat.le_of_ble_eq_true rfl) (Val.assign rfl) ?_
  refine TL.nil ?_
  refine AtX.then ?_
  refine TC.seq ?_
  refine TC.region ?_
  refine TL.val rfl rfl (Nat.le_of_ble_eq_true rfl) (Val.move rfl) ?_
  refine TL.does (some 27) rfl rfl rfl (Does.callF go11 rfl (Fit_fn zs A n cA _ hA hn)) ?_
  rintro _ _ ⟨cf, rfl, hcf, rfl⟩
  have hn16 := hcf.n
  have hfr := hcf.fresh
  have hmm := hcf.m
  have hwin := hcf.window
  have hgrc := hcf.grace
  obtain ⟨N, hN⟩ : ∃ N : Nat, cf.n = N := ⟨cf.n.toNat, by omega⟩
  refine TL.does (some 13) rfl rfl rfl (Does.alloc ze26 rfl) ?_
  rintro _ _ ⟨b2, rfl, rfl⟩
  refine TL.does none rfl rfl rfl (Does.storeR (ys' := [.int .i64 (cf.n), .int .i64 (cf.f), .int .i64 (cf.m), .int .i64 (cf.quorum), .int .i64 (cf.fresh), .int .i64 (cf.grace), .int .i64 (cf.window), .int .i64 (cf.t0), .int .i64 (cf.t1), .int .i64 (cf.t2), .int .i64 (cf.t3), .int .i64 (cf.tol), .int .i64 (cf.min), .int .i64 (cf.max), .int .i64 (cf.calmup), .int .i64 (cf.calmdown), .int .i64 (cf.podsup), .int .i64 (cf.pctup), .int .i64 (cf.podsdown), .int .i64 (cf.pctdown), .int .i64 (cf.period), .int .i64 (cf.far), .int .i64 (cf.strikes), .int .i64 (cf.probe), .int .i64 (cf.sectors), .int .u64 (cf.seed)]) 0 rfl rfl rfl sz26 rfl rfl (by exact Nat.le_of_ble_eq_true rfl) rfl) ?_
  rintro _ _ ⟨rfl, rfl⟩
  refine TL.nil ?_
  refine AtX.then ?_
  refine TC.env (E' := [(1, _), (2, _), (3, _), (4, _), (5, _), (12, _), (13, _)]) (Sub.cons rfl (Sub.cons rfl (Sub.cons rfl (Sub.cons rfl (Sub.cons rfl (Sub.cons rfl (Sub.cons rfl (Sub.nil _)))))))) ?_
  refine TC.seq ?_
  refine TC.region ?_
  refine TL.val rfl rfl (Nat.le_of_ble_eq_true rfl) (Val.loadAgg (vs := [.int .i64 (cf.n), .int .i64 (cf.f), .int .i64 (cf.m), .int .i64 (cf.quorum), .int .i64 (cf.fresh), .int .i64 (cf.grace), .int .i64 (cf.window), .int .i64 (cf.t0), .int .i64 (cf.t1), .int .i64 (cf.t2), .int .i64 (cf.t3), .int .i64 (cf.tol), .int .i64 (cf.min), .int .i64 (cf.max), .int .i64 (cf.calmup), .int .i64 (cf.calmdown), .int .i64 (cf.podsup), .int .i64 (cf.pctup), .int .i64 (cf.podsdown), .int .i64 (cf.pctdown), .int .i64 (cf.period), .int .i64 (cf.far), .int .i64 (cf.strikes), .int .i64 (cf.probe), .int .i64 (cf.sectors), .int .u64 (cf.seed)]) 0 rfl ag26 sz26 rfl rfl rfl) ?_
  refine TL.does (some 29) rfl rfl rfl (Does.callF go29 rfl (gNew_fn cf N _ hcf hN)) ?_
  rintro _ _ ⟨gb, rb, lb, nb, cn, sn, ob, co, so, nws, ols, rfl, hnl, hol, rfl⟩
  refine TL.val rfl rfl (Nat.le_of_ble_eq_true rfl) (Val.assign rfl) ?_
  refine TL.nil ?_
  refine AtX.then ?_
  refine TC.env (E' := [(1, _), (2, _), (3, _), (4, _), (5, _), (12, _), (13, _), (14, _)]) (Sub.cons rfl (Sub.cons rfl (Sub.cons rfl (Sub.cons rfl (Sub.cons rfl (Sub.cons rfl (Sub.cons rfl (Sub.cons rfl (Sub.nil _))))))))) ?_
  refine TC.seq ?_
  refine TC.seq ?_
  refine TC.heap (M' := gateO gb cf rb (some ⟨nb, 0, none⟩) N cn (some ⟨ob, 0, none⟩) N co 0 :: ringO rb cf.seed lb N cf.grace 0 :: (lb, row 161 ((List.replicate N (⟨0, 0⟩ : On)).flatMap On.cs)) :: (nb, row 118 (nws.map pp ++ sn)) :: (ob, row 118 (ols.map pp ++ so)) :: (b2, .cells #[.int .i64 (cf.n), .int .i64 (cf.f), .int .i64 (cf.m), .int .i64 (cf.quorum), .int .i64 (cf.fresh), .int .i64 (cf.grace), .int .i64 (cf.window), .int .i64 (cf.t0), .int .i64 (cf.t1), .int .i64 (cf.t2), .int .i64 (cf.t3), .int .i64 (cf.tol), .int .i64 (cf.min), .int .i64 (cf.max), .int .i64 (cf.calmup), .int .i64 (cf.calmdown), .int .i64 (cf.podsup), .int .i64 (cf.pctup), .int .i64 (cf.podsdown), .int .i64 (cf.pctdown), .int .i64 (cf.period), .int .i64 (cf.far), .int .i64 (cf.strikes), .int .i64 (cf.probe), .int .i64 (cf.sectors), .int .u64 (cf.seed)] 26 (0, 0)) :: ((nws.map fun p => repO p cf.window 0 0 0) ++ ((ols.map fun p => repO p cf.window 0 0 0) ++ M))) ro_bx ?_
  refine TC.region ?_
  refine TL.val rfl rfl (Nat.le_of_ble_eq_true rfl) (Val.move rfl) ?_
  refine TL.val rfl rfl (Nat.le_of_ble_eq_true rfl) (Val.eqlNil rfl rfl pt55) ?_
  refine TL.nil ?_
  refine AtX.then ?_
  refine TC.env (E' := [(1, _), (2, _), (3, _), (4, _), (5, _), (12, _), (13, _), (14, _), (31, _)]) (Sub.cons rfl (Sub.cons rfl (Sub.cons rfl (Sub.cons rfl (Sub.cons rfl (Sub.cons rfl (Sub.cons rfl (Sub.cons rfl (Sub.cons rfl (Sub.nil _)))))))))) ?_
  first | refine TC.condP rfl (fun c1 => ?_) (fun c1 => ?_) | refine TC.condN rfl (fun c1 => ?_) (fun c1 => ?_) | refine TC.condB rfl (fun c1 => ?_) (fun c1 => ?_) | refine TC.cond rfl (fun c1 => ?_) (fun c1 => ?_)
  · skip
    (exfalso; simp at c1)
  · skip
    refine TC.env (E' := [(1, _), (2, _), (3, _), (4, _), (5, _), (12, _), (13, _), (14, _)]) (Sub.cons rfl (Sub.cons rfl (Sub.cons rfl (Sub.cons rfl (Sub.cons rfl (Sub.cons rfl (Sub.cons rfl (Sub.cons rfl (Sub.nil _))))))))) ?_
    refine TC.skip ?_
    refine AtX.then ?_
    refine TC.env (E' := [(1, _), (2, _), (3, _), (4, _), (5, _), (12, _), (13, _), (14, _)]) (Sub.cons rfl (Sub.cons rfl (Sub.cons rfl (Sub.cons rfl (Sub.cons rfl (Sub.cons rfl (Sub.cons rfl (Sub.cons rfl (Sub.nil _))))))))) ?_
    refine TC.seq ?_
    obtain ⟨r1, hr1, g1_, l1_⟩ := rem_ex (m := IntKind.u64.wrap who) (d := cf.n) (by rw [w_u64m]; omega) (by omega)
    obtain ⟨k, hkr⟩ : ∃ k : Nat, r1 = k := ⟨r1.toNat, by omega⟩
    subst hkr
    have hk := hr1
    have hkN : k < N := by omega
    obtain ⟨rb_, hrb, g2_, l2_⟩ := rem_ex (m := IntKind.u64.wrap by_) (d := 16) (by rw [w_u64m]; omega) (by decide)
    obtain ⟨rg_, hrg, g3_, l3_⟩ := rem_ex (m := IntKind.u64.wrap gen) (d := 3) (by rw [w_u64m]; omega) (by decide)
    obtain ⟨ep, hep, g4_, l4_⟩ := rem_ex (m := IntKind.u64.wrap epoch) (d := cf.fresh) (by rw [w_u64m]; omega) (by omega)
    obtain ⟨va, hva, g5_, l5_⟩ := rem_ex (m := IntKind.u64.wrap value) (d := 1099511627776) (by rw [w_u64m]; omega) (by decide)
    have hepb : 0 ≤ ep ∧ ep < cf.fresh := ⟨g4_, l4_⟩
    have hm : mayM ⟨1, ((k : Nat) : Int), 0, 1, ep, va, 0⟩ = true := mayM_iff.2 (by simp; omega)
    obtain ⟨p, hp⟩ : ∃ p, nws[k]? = some p := ⟨_, List.getElem?_eq_getElem (by omega)⟩
    obtain ⟨p2, hp2⟩ : ∃ p2, ols[k]? = some p2 := ⟨_, List.getElem?_eq_getElem (by omega)⟩
    have hx0 : (List.replicate N (⟨0, 0⟩ : On))[k]? = some (⟨0, 0⟩ : On) := by rw [List.getElem?_replicate, if_pos (by omega)]
    refine TC.region ?_
    refine TL.val rfl rfl (Nat.le_of_ble_eq_true rfl) (Val.move rfl) ?_
    refine TL.val rfl rfl (Nat.le_of_ble_eq_true rfl) (Val.convI rfl iu3 in32 rfl) ?_
    refine TL.val rfl rfl (Nat.le_of_ble_eq_true rfl) (Val.fieldAddr rfl fl26_0 sz3 rfl) ?_
    refine TL.val rfl rfl (Nat.le_of_ble_eq_true rfl) (Val.load 5 rfl ag3 rfl rfl) ?_
    refine TL.val rfl rfl (Nat.le_of_ble_eq_true rfl) (Val.convI rfl iu3 in32 (r := cf.n) (w_u64 (by omega) (by omega))) ?_
    refine TL.val rfl rfl (Nat.le_of_ble_eq_true rfl) (Val.rem rfl rfl (by omega) (r := ((k : Nat) : Int)) hk) ?_
    refine TL.val rfl rfl (Nat.le_of_ble_eq_true rfl) (Val.convI rfl iu32 in3 (r := ((k : Nat) : Int)) (w_i64 (by omega) (by omega))) ?_
    refine TL.val rfl rfl (Nat.le_of_ble_eq_true rfl) (Val.move rfl) ?_
    refine TL.val rfl rfl (Nat.le_of_ble_eq_true rfl) (Val.convI rfl iu3 in32 rfl) ?_
    refine TL.val rfl rfl (Nat.le_of_ble_eq_true rfl) (Val.rem rfl rfl (by decide) (r := rb_) hrb) ?_
    refine TL.val rfl rfl (Nat.le_of_ble_eq_true rfl) (Val.convI rfl iu32 in3 (r := rb_) (w_i64 (by omega) (by omega))) ?_
    refine TL.val rfl rfl (Nat.le_of_ble_eq_true rfl) (Val.move rfl) ?_
    refine TL.val rfl rfl (Nat.le_of_ble_eq_true rfl) (Val.convI rfl iu3 in32 rfl) ?_
    refine TL.val rfl rfl (Nat.le_of_ble_eq_true rfl) (Val.rem rfl rfl (by decide) (r := rg_) hrg) ?_
    refine TL.val rfl rfl (Nat.le_of_ble_eq_true rfl) (Val.convI rfl iu32 in3 (r := rg_) (w_i64 (by omega) (by omega))) ?_
    refine TL.val rfl rfl (Nat.le_of_ble_eq_true rfl) (Val.assign rfl) ?_
    refine TL.val rfl rfl (Nat.le_of_ble_eq_true rfl) (Val.assign rfl) ?_
    refine TL.val rfl rfl (Nat.le_of_ble_eq_true rfl) (Val.assign rfl) ?_
    refine TL.nil ?_
    refine AtX.then ?_
    refine TC.env (E' := [(4, _), (5, _), (12, _), (13, _), (14, _), (15, _), (16, _), (17, _)]) (Sub.cons rfl (Sub.cons rfl (Sub.cons rfl (Sub.cons rfl (Sub.cons rfl (Sub.cons rfl (Sub.cons rfl (Sub.cons rfl (Sub.nil _))))))))) ?_
    refine TC.seq ?_
    refine TC.region ?_
    refine TL.val rfl rfl (Nat.le_of_ble_eq_true rfl) (Val.move rfl) ?_
    refine TL.val rfl rfl (Nat.le_of_ble_eq_true rfl) (Val.move rfl) ?_
    refine TL.val rfl rfl (Nat.le_of_ble_eq_true rfl) (Val.convI rfl iu2 in24 rfl) ?_
    refine TL.val rfl rfl (Nat.le_of_ble_eq_true rfl) (Val.fieldAddr rfl fl26_4 sz3 rfl) ?_
    refine TL.val rfl rfl (Nat.le_of_ble_eq_true rfl) (Val.load 5 rfl ag3 rfl rfl) ?_
    refine TL.val rfl rfl (Nat.le_of_ble_eq_true rfl) (Val.convI rfl iu3 in24 (r := cf.fresh) (w_u64 (by omega) (by omega))) ?_
    refine TL.val rfl rfl (Nat.le_of_ble_eq_true rfl) (Val.rem rfl rfl (by omega) (r := ep) hep) ?_
    refine TL.val rfl rfl (Nat.le_of_ble_eq_true rfl) (Val.convI rfl iu24 in2 (r := ep) (w_i64 (by omega) (by omega))) ?_
    refine TL.val rfl rfl (Nat.le_of_ble_eq_true rfl) (Val.move rfl) ?_
    refine TL.val rfl rfl (Nat.le_of_ble_eq_true rfl) (Val.convI rfl iu2 in24 rfl) ?_
    refine TL.val rfl rfl (Nat.le_of_ble_eq_true rfl) (Val.rem rfl rfl (by decide) (r := va) hva) ?_
    refine TL.val rfl rfl (Nat.le_of_ble_eq_true rfl) (Val.convI rfl iu24 in2 (r := va) (w_i64 (by omega) (by omega))) ?_
    refine TL.val rfl rfl (Nat.le_of_ble_eq_true rfl) (Val.buildS pl61 ze61 rfl rfl) ?_
    refine TL.does (some 18) rfl rfl rfl (Does.alloc ze61 rfl) ?_
    rintro _ _ ⟨bm, rfl, rfl⟩
    first
      | refine TL.does none rfl rfl rfl (Does.store (i := 0) rfl rfl rfl sz61 rfl rfl (by first | exact Nat.le_of_ble_eq_true rfl | decide | omega) rfl rfl) ?_
      | refine TL.does none rfl rfl rfl (Does.store (i := 1) rfl rfl rfl sz61 rfl rfl (by first | exact Nat.le_of_ble_eq_true rfl | decide | omega) rfl rfl) ?_
      | refine TL.does none rfl rfl rfl (Does.store (i := 2) rfl rfl rfl sz61 rfl rfl (by first | exact Nat.le_of_ble_eq_true rfl | decide | omega) rfl rfl) ?_
      | refine TL.does none rfl rfl rfl (Does.store (i := 3) rfl rfl rfl sz61 rfl rfl (by first | exact Nat.le_of_ble_eq_true rfl | decide | omega) rfl rfl) ?_
      | refine TL.does none rfl rfl rfl (Does.store (i := 4) rfl rfl rfl sz61 rfl rfl (by first | exact Nat.le_of_ble_eq_true rfl | decide | omega) rfl rfl) ?_
      | refine TL.does none rfl rfl rfl (Does.store (i := 5) rfl rfl rfl sz61 rfl rfl (by first | exact Nat.le_of_ble_eq_true rfl | decide | omega) rfl rfl) ?_
      | refine TL.does none rfl rfl rfl (Does.store (i := 6) rfl rfl rfl sz61 rfl rfl (by first | exact Nat.le_of_ble_eq_true rfl | decide | omega) rfl rfl) ?_
      | refine TL.does none rfl rfl rfl (Does.store (i := 7) rfl rfl rfl sz61 rfl rfl (by first | exact Nat.le_of_ble_eq_true rfl | decide | omega) rfl rfl) ?_
      | refine TL.does none rfl rfl rfl (Does.store (i := 8) rfl rfl rfl sz61 rfl rfl (by first | exact Nat.le_of_ble_eq_true rfl | decide | omega) rfl rfl) ?_
      | refine TL.does none rfl rfl rfl (Does.store (i := 9) rfl rfl rfl sz61 rfl rfl (by first | exact Nat.le_of_ble_eq_true rfl | decide | omega) rfl rfl) ?_
    rintro _ _ ⟨rfl, rfl⟩
    refine TL.nil ?_
    refine AtX.then ?_
    refine TC.env (E' := [(12, _), (13, _), (14, _), (15, _), (16, _), (17, _), (18, _)]) (Sub.cons rfl (Sub.cons rfl (Sub.cons rfl (Sub.cons rfl (Sub.cons rfl (Sub.cons rfl (Sub.cons rfl (Sub.nil _)))))))) ?_
    refine TC.seq ?_
    refine TC.heap (M' := gateO gb cf rb (some ⟨nb, 0, none⟩) N cn (some ⟨ob, 0, none⟩) N co 0 :: ringO rb cf.seed lb N cf.grace 0 :: (lb, row 161 ((List.replicate N (⟨0, 0⟩ : On)).flatMap On.cs)) :: (nb, row 118 (nws.map pp ++ sn)) :: (ob, row 118 (ols.map pp ++ so)) :: ((bm, .cells #[.int .i64 1, .int .i64 ((k : Nat) : Int), .int .i64 0, .int .i64 1, .int .i64 ep, .int .i64 va, .int .i64 0] 61 (0, 0)) :: (b2, .cells #[.int .i64 (cf.n), .int .i64 (cf.f), .int .i64 (cf.m), .int .i64 (cf.quorum), .int .i64 (cf.fresh), .int .i64 (cf.grace), .int .i64 (cf.window), .int .i64 (cf.t0), .int .i64 (cf.t1), .int .i64 (cf.t2), .int .i64 (cf.t3), .int .i64 (cf.tol), .int .i64 (cf.min), .int .i64 (cf.max), .int .i64 (cf.calmup), .int .i64 (cf.calmdown), .int .i64 (cf.podsup), .int .i64 (cf.pctup), .int .i64 (cf.podsdown), .int .i64 (cf.pctdown), .int .i64 (cf.period), .int .i64 (cf.far), .int .i64 (cf.strikes), .int .i64 (cf.probe), .int .i64 (cf.sectors), .int .u64 (cf.seed)] 26 (0, 0)) :: ((nws.map fun p => repO p cf.window 0 0 0) ++ ((ols.map fun p => repO p cf.window 0 0 0) ++ M)))) (fun w h => ro_mv (A := [_]) (L := [_, _, _, _, _]) w h) ?_
    refine TC.drawLM mixed 12 ?_
    refine TA.tk 0 1 rfl rfl rfl (Val.fieldAddr rfl fl26_22 sz24 rfl) ?_
    refine TA.tk 1 3 rfl rfl rfl (Val.load 6 rfl ag24 rfl rfl) ?_
    refine TA.tk 2 7 rfl rfl rfl (Val.move rfl) ?_
    refine TA.tk 3 15 rfl rfl rfl (Val.move rfl) ?_
    refine TA.tk 5 47 rfl rfl rfl (Val.loadAgg 5 rfl ag61 sz61 rfl rfl rfl) ?_
    refine TA.one 4 (by kernel_rfl) ?_
    refine TO.dz 63 (some 65) rfl rfl rfl rfl (Does.callF go37 rfl (Of_fn _ _ _ _)) ?_
    rintro _ _ ⟨rfl, rfl⟩
    refine roK ?_
    refine TA.one 6 (by kernel_rfl) ?_
    refine TO.dz 127 (some 67) rfl rfl rfl rfl (Does.callF go36 rfl (wSeal_fn (macKey cf.seed rb_ rg_) ⟨1, ((k : Nat) : Int), 0, 1, ep, va, 0⟩ _ hm)) ?_
    rintro _ _ ⟨bE, cE, spE, rfl, hcE, rfl⟩
    refine roK ?_
    refine TA.tk 7 255 rfl rfl rfl (Val.move rfl) ?_
    refine TA.tk 8 511 rfl rfl rfl (Val.extract rfl rfl) ?_
    refine TA.tk 9 1023 rfl rfl rfl (Val.extract rfl rfl) ?_
    refine TA.tk 10 2047 rfl rfl rfl (Val.assign rfl) ?_
    refine TA.tk 11 4095 rfl rfl rfl (Val.assign rfl) ?_
    refine TA.done (by kernel_rfl) ?_
    refine AtX.then ?_
    refine TC.env (E' := [(12, _), (13, _), (14, _), (15, _), (16, _), (17, _), (18, _), (19, _), (20, _)]) (Sub.cons rfl (Sub.cons rfl (Sub.cons rfl (Sub.cons rfl (Sub.cons rfl (Sub.cons rfl (Sub.cons rfl (Sub.cons rfl (Sub.cons rfl (Sub.nil _)))))))))) ?_
    refine TC.seq ?_
    refine TC.region ?_
    first
      | refine TL.val rfl rfl (Nat.le_of_ble_eq_true rfl) (Val.loadAgg 0 rfl ag61 sz61 rfl rfl rfl) ?_
      | refine TL.val rfl rfl (Nat.le_of_ble_eq_true rfl) (Val.loadAgg 1 rfl ag61 sz61 rfl rfl rfl) ?_
      | refine TL.val rfl rfl (Nat.le_of_ble_eq_true rfl) (Val.loadAgg 2 rfl ag61 sz61 rfl rfl rfl) ?_
      | refine TL.val rfl rfl (Nat.le_of_ble_eq_true rfl) (Val.loadAgg 3 rfl ag61 sz61 rfl rfl rfl) ?_
      | refine TL.val rfl rfl (Nat.le_of_ble_eq_true rfl) (Val.loadAgg 4 rfl ag61 sz61 rfl rfl rfl) ?_
      | refine TL.val rfl rfl (Nat.le_of_ble_eq_true rfl) (Val.loadAgg 5 rfl ag61 sz61 rfl rfl rfl) ?_
      | refine TL.val rfl rfl (Nat.le_of_ble_eq_true rfl) (Val.loadAgg 6 rfl ag61 sz61 rfl rfl rfl) ?_
      | refine TL.val rfl rfl (Nat.le_of_ble_eq_true rfl) (Val.loadAgg 7 rfl ag61 sz61 rfl rfl rfl) ?_
      | refine TL.val rfl rfl (Nat.le_of_ble_eq_true rfl) (Val.loadAgg 8 rfl ag61 sz61 rfl rfl rfl) ?_
      | refine TL.val rfl rfl (Nat.le_of_ble_eq_true rfl) (Val.loadAgg 9 rfl ag61 sz61 rfl rfl rfl) ?_
    refine TL.does (some 72) rfl rfl rfl (Does.callF go38 rfl (wPut_fn ⟨1, ((k : Nat) : Int), 0, 1, ep, va, 0⟩ _ hm)) ?_
    rintro _ _ ⟨bP, cP, spP, rfl, hcP, rfl⟩
    refine TL.val rfl rfl (Nat.le_of_ble_eq_true rfl) (Val.move rfl) ?_
    refine TL.val rfl rfl (Nat.le_of_ble_eq_true rfl) (Val.extract rfl rfl) ?_
    refine TL.val rfl rfl (Nat.le_of_ble_eq_true rfl) (Val.extract rfl rfl) ?_
    refine TL.val rfl rfl (Nat.le_of_ble_eq_true rfl) (Val.assign rfl) ?_
    refine TL.val rfl rfl (Nat.le_of_ble_eq_true rfl) (Val.assign rfl) ?_
    refine TL.nil ?_
    refine AtX.then ?_
    refine TC.env (E' := [(12, _), (13, _), (14, _), (15, _), (16, _), (17, _), (18, _), (19, _), (20, _), (21, _), (22, _)]) (Sub.cons rfl (Sub.cons rfl (Sub.cons rfl (Sub.cons rfl (Sub.cons rfl (Sub.cons rfl (Sub.cons rfl (Sub.cons rfl (Sub.cons rfl (Sub.cons rfl (Sub.cons rfl (Sub.nil _)))))))))))) ?_
    refine TC.seq ?_
    refine TC.seq ?_
    refine TC.heap (M' := gateO gb cf rb (some ⟨nb, 0, none⟩) N cn (some ⟨ob, 0, none⟩) N co 0 :: ringO rb cf.seed lb N cf.grace 0 :: (lb, row 161 ((List.replicate N (⟨0, 0⟩ : On)).flatMap On.cs)) :: (nb, row 118 (nws.map pp ++ sn)) :: (ob, row 118 (ols.map pp ++ so)) :: ((bP, row 5 (bv (putM ⟨1, ((k : Nat) : Int), 0, 1, ep, va, 0⟩) ++ spP)) :: (bE, row 5 (bv (sealB (macKey cf.seed rb_ rg_) ⟨1, ((k : Nat) : Int), 0, 1, ep, va, 0⟩) ++ spE)) :: (bm, .cells #[.int .i64 1, .int .i64 ((k : Nat) : Int), .int .i64 0, .int .i64 1, .int .i64 ep, .int .i64 va, .int .i64 0] 61 (0, 0)) :: (b2, .cells #[.int .i64 (cf.n), .int .i64 (cf.f), .int .i64 (cf.m), .int .i64 (cf.quorum), .int .i64 (cf.fresh), .int .i64 (cf.grace), .int .i64 (cf.window), .int .i64 (cf.t0), .int .i64 (cf.t1), .int .i64 (cf.t2), .int .i64 (cf.t3), .int .i64 (cf.tol), .int .i64 (cf.min), .int .i64 (cf.max), .int .i64 (cf.calmup), .int .i64 (cf.calmdown), .int .i64 (cf.podsup), .int .i64 (cf.pctup), .int .i64 (cf.podsdown), .int .i64 (cf.pctdown), .int .i64 (cf.period), .int .i64 (cf.far), .int .i64 (cf.strikes), .int .i64 (cf.probe), .int .i64 (cf.sectors), .int .u64 (cf.seed)] 26 (0, 0)) :: ((nws.map fun p => repO p cf.window 0 0 0) ++ ((ols.map fun p => repO p cf.window 0 0 0) ++ M)))) (fun w h => ro_mv (A := [_, _]) (L := [_, _, _, _, _]) w h) ?_
    refine TC.region ?_
    refine TL.val rfl rfl (Nat.le_of_ble_eq_true rfl) (Val.move rfl) ?_
    refine TL.val rfl rfl (Nat.le_of_ble_eq_true rfl) (Val.neqI rfl rfl) ?_
    refine TL.val rfl rfl (Nat.le_of_ble_eq_true rfl) (Val.move rfl) ?_
    refine TL.gen (fun g7 hg7 => ?_)
    refine TL.gval rfl rfl (Nat.le_of_ble_eq_true rfl) rfl (Nat.le_of_ble_eq_true rfl) rfl (fun hg => by subst hg; exact (Val.move rfl)) ?_
    refine TL.gval rfl rfl (Nat.le_of_ble_eq_true rfl) rfl (Nat.le_of_ble_eq_true rfl) rfl (fun hg => by subst hg; exact (Val.neqI rfl rfl)) ?_
    first
      | refine TL.val rfl rfl (Nat.le_of_ble_eq_true rfl) (Val.pickAnd rfl rfl rfl) ?_
      | refine TL.val rfl rfl (Nat.le_of_ble_eq_true rfl) (Val.pickOr rfl rfl rfl) ?_
      | refine TL.val rfl rfl (Nat.le_of_ble_eq_true rfl) (Val.pick rfl rfl rfl) ?_
    refine TL.nil ?_
    refine AtX.then ?_
    refine TC.env (E' := [(12, _), (13, _), (14, _), (15, _), (16, _), (17, _), (18, _), (19, _), (21, _), (80, _)]) (Sub.cons rfl (Sub.cons rfl (Sub.cons rfl (Sub.cons rfl (Sub.cons rfl (Sub.cons rfl (Sub.cons rfl (Sub.cons rfl (Sub.cons rfl (Sub.cons rfl (Sub.nil _))))))))))) ?_
    first | refine TC.condP rfl (fun c2 => ?_) (fun c2 => ?_) | refine TC.condN rfl (fun c2 => ?_) (fun c2 => ?_) | refine TC.condB rfl (fun c2 => ?_) (fun c2 => ?_) | refine TC.cond rfl (fun c2 => ?_) (fun c2 => ?_)
    · skip
      (exfalso; simp_all)
    · skip
      refine TC.env (E' := [(12, _), (13, _), (14, _), (15, _), (16, _), (17, _), (18, _), (19, _), (21, _)]) (Sub.cons rfl (Sub.cons rfl (Sub.cons rfl (Sub.cons rfl (Sub.cons rfl (Sub.cons rfl (Sub.cons rfl (Sub.cons rfl (Sub.cons rfl (Sub.nil _)))))))))) ?_
      refine TC.skip ?_
      refine AtX.then ?_
      refine TC.env (E' := [(12, _), (13, _), (14, _), (15, _), (16, _), (17, _), (18, _), (19, _), (21, _)]) (Sub.cons rfl (Sub.cons rfl (Sub.cons rfl (Sub.cons rfl (Sub.cons rfl (Sub.cons rfl (Sub.cons rfl (Sub.cons rfl (Sub.cons rfl (Sub.nil _)))))))))) ?_
      refine TC.seq ?_
      obtain ⟨sm, hsm⟩ : ∃ sm, sm = decide (bitsOf .or .u64 (xor64 (tagOf (macKey cf.seed rb_ rg_) (putM ⟨1, ((k : Nat) : Int), 0, 1, ep, va, 0⟩)).a (tagOf (macKey cf.seed ((k : Nat) : Int) 0) (putM ⟨1, ((k : Nat) : Int), 0, 1, ep, va, 0⟩)).a) (xor64 (tagOf (macKey cf.seed rb_ rg_) (putM ⟨1, ((k : Nat) : Int), 0, 1, ep, va, 0⟩)).b (tagOf (macKey cf.seed ((k : Nat) : Int) 0) (putM ⟨1, ((k : Nat) : Int), 0, 1, ep, va, 0⟩)).b) = 0) := ⟨_, rfl⟩
      refine TC.drawLM mixed 15 ?_
      refine TA.tk 0 1 rfl rfl rfl (Val.fieldAddr rfl fl26_22 sz24 rfl) ?_
      refine TA.tk 1 3 rfl rfl rfl (Val.load 8 rfl ag24 rfl rfl) ?_
      refine TA.tk 2 7 rfl rfl rfl (Val.move rfl) ?_
      refine TA.tk 3 15 rfl rfl rfl (Val.move rfl) ?_
      refine TA.tk 5 47 rfl rfl rfl (Val.move rfl) ?_
      refine TA.tk 7 175 rfl rfl rfl (Val.fieldAddr rfl fl26_22 sz24 rfl) ?_
      refine TA.tk 8 431 rfl rfl rfl (Val.load 8 rfl ag24 rfl rfl) ?_
      refine TA.tk 9 943 rfl rfl rfl (Val.move rfl) ?_
      refine TA.tk 11 2991 rfl rfl rfl (Val.move rfl) ?_
      refine TA.one 4 (by kernel_rfl) ?_
      refine TO.dz 3007 (some 85) rfl rfl rfl rfl (Does.callF go37 rfl (Of_fn _ _ _ _)) ?_
      rintro _ _ ⟨rfl, rfl⟩
      refine roK ?_
      refine TA.one 6 (by kernel_rfl) ?_
      refine TO.dz 3071 (some 87) rfl rfl rfl rfl (Does.callF go40 rfl (Tag_fn (macKey cf.seed rb_ rg_) (putM ⟨1, ((k : Nat) : Int), 0, 1, ep, va, 0⟩) _ _ _ _ (rd_all (i := 5) (sp := spP) rfl) (by simp) (by simp))) ?_
      rintro _ _ ⟨rfl, rfl⟩
      refine roK ?_
      refine TA.one 10 (by kernel_rfl) ?_
      refine TO.dz 4095 (some 91) rfl rfl rfl rfl (Does.callF go37 rfl (Of_fn _ _ _ _)) ?_
      rintro _ _ ⟨rfl, rfl⟩
      refine roK ?_
      refine TA.one 12 (by kernel_rfl) ?_
      refine TO.dz 8191 (some 93) rfl rfl rfl rfl (Does.callF go40 rfl (Tag_fn (macKey cf.seed ((k : Nat) : Int) 0) (putM ⟨1, ((k : Nat) : Int), 0, 1, ep, va, 0⟩) _ _ _ _ (rd_all (i := 5) (sp := spP) rfl) (by simp) (by simp))) ?_
      rintro _ _ ⟨rfl, rfl⟩
      refine roK ?_
      refine TA.one 13 (by kernel_rfl) ?_
      refine TO.dz 16383 (some 94) rfl rfl rfl rfl (Does.callF go39 rfl ((Same_fn (tagOf (macKey cf.seed rb_ rg_) (putM ⟨1, ((k : Nat) : Int), 0, 1, ep, va, 0⟩)) (tagOf (macKey cf.seed ((k : Nat) : Int) 0) (putM ⟨1, ((k : Nat) : Int), 0, 1, ep, va, 0⟩)) _).mono (R' := fun v M' => v = .bool sm ∧ (gateO gb cf rb (some ⟨nb, 0, none⟩) N cn (some ⟨ob, 0, none⟩) N co 0 :: ringO rb cf.seed lb N cf.grace 0 :: (lb, row 161 ((List.replicate N (⟨0, 0⟩ : On)).flatMap On.cs)) :: (nb, row 118 (nws.map pp ++ sn)) :: (ob, row 118 (ols.map pp ++ so)) :: ((bP, row 5 (bv (putM ⟨1, ((k : Nat) : Int), 0, 1, ep, va, 0⟩) ++ spP)) :: (bE, row 5 (bv (sealB (macKey cf.seed rb_ rg_) ⟨1, ((k : Nat) : Int), 0, 1, ep, va, 0⟩) ++ spE)) :: (bm, .cells #[.int .i64 1, .int .i64 ((k : Nat) : Int), .int .i64 0, .int .i64 1, .int .i64 ep, .int .i64 va, .int .i64 0] 61 (0, 0)) :: (b2, .cells #[.int .i64 (cf.n), .int .i64 (cf.f), .int .i64 (cf.m), .int .i64 (cf.quorum), .int .i64 (cf.fresh), .int .i64 (cf.grace), .int .i64 (cf.window), .int .i64 (cf.t0), .int .i64 (cf.t1), .int .i64 (cf.t2), .int .i64 (cf.t3), .int .i64 (cf.tol), .int .i64 (cf.min), .int .i64 (cf.max), .int .i64 (cf.calmup), .int .i64 (cf.calmdown), .int .i64 (cf.podsup), .int .i64 (cf.pctup), .int .i64 (cf.podsdown), .int .i64 (cf.pctdown), .int .i64 (cf.period), .int .i64 (cf.far), .int .i64 (cf.strikes), .int .i64 (cf.probe), .int .i64 (cf.sectors), .int .u64 (cf.seed)] 26 (0, 0)) :: ((nws.map fun p => repO p cf.window 0 0 0) ++ ((ols.map fun p => repO p cf.window 0 0 0) ++ M)))) = M') (fun v M' h => ⟨by rw [hsm]; exact h.1, h.2⟩))) ?_
      rintro _ _ ⟨rfl, rfl⟩
      refine roK ?_
      refine TA.tk 14 32767 rfl rfl rfl (Val.assign rfl) ?_
      refine TA.done (by kernel_rfl) ?_
      refine AtX.then ?_
      refine TC.env (E' := [(12, _), (14, _), (15, _), (16, _), (17, _), (18, _), (19, _), (23, _)]) (Sub.cons rfl (Sub.cons rfl (Sub.cons rfl (Sub.cons rfl (Sub.cons rfl (Sub.cons rfl (Sub.cons rfl (Sub.cons rfl (Sub.nil _))))))))) ?_
      refine TC.seq ?_
      have hrep : ((bP, row 5 (bv (putM ⟨1, ((k : Nat) : Int), 0, 1, ep, va, 0⟩) ++ spP)) :: (bE, row 5 (bv (sealB (macKey cf.seed rb_ rg_) ⟨1, ((k : Nat) : Int), 0, 1, ep, va, 0⟩) ++ spE)) :: (bm, .cells #[.int .i64 1, .int .i64 ((k : Nat) : Int), .int .i64 0, .int .i64 1, .int .i64 ep, .int .i64 va, .int .i64 0] 61 (0, 0)) :: (b2, .cells #[.int .i64 (cf.n), .int .i64 (cf.f), .int .i64 (cf.m), .int .i64 (cf.quorum), .int .i64 (cf.fresh), .int .i64 (cf.grace), .int .i64 (cf.window), .int .i64 (cf.t0), .int .i64 (cf.t1), .int .i64 (cf.t2), .int .i64 (cf.t3), .int .i64 (cf.tol), .int .i64 (cf.min), .int .i64 (cf.max), .int .i64 (cf.calmup), .int .i64 (cf.calmdown), .int .i64 (cf.podsup), .int .i64 (cf.pctup), .int .i64 (cf.podsdown), .int .i64 (cf.pctdown), .int .i64 (cf.period), .int .i64 (cf.far), .int .i64 (cf.strikes), .int .i64 (cf.probe), .int .i64 (cf.sectors), .int .u64 (cf.seed)] 26 (0, 0)) :: ((nws.map fun p => repO p cf.window 0 0 0) ++ ((ols.map fun p => repO p cf.window 0 0 0) ++ M)))[k + 4]? = some (repO (if sgen 1 0 = (⟨0, 0⟩ : On).gen then p else p2) cf.window 0 0 0) := by show (((nws.map fun p => repO p cf.window 0 0 0) ++ ((ols.map fun p => repO p cf.window 0 0 0) ++ M)))[k]? = _; rw [List.getElem?_append_left (by simp; omega), List.getElem?_map, hp]; rfl
      refine TC.region ?_
      refine TL.val rfl rfl (Nat.le_of_ble_eq_true rfl) (Val.move rfl) ?_
      refine TL.val rfl rfl (Nat.le_of_ble_eq_true rfl) (Val.move rfl) ?_
      refine TL.does (some 98) rfl rfl rfl (Does.callF go32 rfl ((Check_nil gb rb lb nb cn ob co sn so cf N 0 0 (List.replicate N (⟨0, 0⟩ : On)) nws ols ((bP, row 5 (bv (putM ⟨1, ((k : Nat) : Int), 0, 1, ep, va, 0⟩) ++ spP)) :: (bE, row 5 (bv (sealB (macKey cf.seed rb_ rg_) ⟨1, ((k : Nat) : Int), 0, 1, ep, va, 0⟩) ++ spE)) :: (bm, .cells #[.int .i64 1, .int .i64 ((k : Nat) : Int), .int .i64 0, .int .i64 1, .int .i64 ep, .int .i64 va, .int .i64 0] 61 (0, 0)) :: (b2, .cells #[.int .i64 (cf.n), .int .i64 (cf.f), .int .i64 (cf.m), .int .i64 (cf.quorum), .int .i64 (cf.fresh), .int .i64 (cf.grace), .int .i64 (cf.window), .int .i64 (cf.t0), .int .i64 (cf.t1), .int .i64 (cf.t2), .int .i64 (cf.t3), .int .i64 (cf.tol), .int .i64 (cf.min), .int .i64 (cf.max), .int .i64 (cf.calmup), .int .i64 (cf.calmdown), .int .i64 (cf.podsup), .int .i64 (cf.pctup), .int .i64 (cf.podsdown), .int .i64 (cf.pctdown), .int .i64 (cf.period), .int .i64 (cf.far), .int .i64 (cf.strikes), .int .i64 (cf.probe), .int .i64 (cf.sectors), .int .u64 (cf.seed)] 26 (0, 0)) :: ((nws.map fun p => repO p cf.window 0 0 0) ++ ((ols.map fun p => repO p cf.window 0 0 0) ++ M))) hN (by simp) hnl hol hgrc ⟨by decide, by decide⟩ k ⟨0, 0⟩ hx0 ⟨by decide, by decide⟩ ⟨by decide, by decide⟩ 1 0 1 ep va 0 ⟨by decide, by decide⟩ (by decide) 0 hcf p p2 hp hp2 (k + 4) 0 0 0 ⟨by decide, by decide⟩ hrep ⟨by decide, by decide⟩ hm ⟨by decide, by decide⟩ (tagB (tagOf (macKey cf.seed rb_ rg_) (putM ⟨1, ((k : Nat) : Int), 0, 1, ep, va, 0⟩))) (some ⟨bE, 0, none⟩) cE (rd_all (i := 1) (sp := spE) rfl) (by omega) (by simp)).mono (R' := fun v M' => ∃ (q : Ms) (code ref2 : Int), v = .tuple #[.agg #[.int .i64 q.kind, .int .i64 q.who, .int .i64 q.gen, .int .i64 q.seq, .int .i64 q.epoch, .int .i64 q.value, .int .i64 q.metric], .int .i64 code] ∧ ((sm = true ∧ code = 0 ∧ q = ⟨1, ((k : Nat) : Int), 0, 1, ep, va, 0⟩) ∨ (sm = false ∧ code = 5)) ∧ M' = (gateO gb cf rb (some ⟨nb, 0, none⟩) N cn (some ⟨ob, 0, none⟩) N co ref2 :: ringO rb cf.seed lb N cf.grace (0 + 1) :: (lb, row 161 ((List.replicate N (⟨0, 0⟩ : On)).flatMap On.cs)) :: (nb, row 118 (nws.map pp ++ sn)) :: (ob, row 118 (ols.map pp ++ so)) :: ((bP, row 5 (bv (putM ⟨1, ((k : Nat) : Int), 0, 1, ep, va, 0⟩) ++ spP)) :: (bE, row 5 (bv (sealB (macKey cf.seed rb_ rg_) ⟨1, ((k : Nat) : Int), 0, 1, ep, va, 0⟩) ++ spE)) :: (bm, .cells #[.int .i64 1, .int .i64 ((k : Nat) : Int), .int .i64 0, .int .i64 1, .int .i64 ep, .int .i64 va, .int .i64 0] 61 (0, 0)) :: (b2, .cells #[.int .i64 (cf.n), .int .i64 (cf.f), .int .i64 (cf.m), .int .i64 (cf.quorum), .int .i64 (cf.fresh), .int .i64 (cf.grace), .int .i64 (cf.window), .int .i64 (cf.t0), .int .i64 (cf.t1), .int .i64 (cf.t2), .int .i64 (cf.t3), .int .i64 (cf.tol), .int .i64 (cf.min), .int .i64 (cf.max), .int .i64 (cf.calmup), .int .i64 (cf.calmdown), .int .i64 (cf.podsup), .int .i64 (cf.pctup), .int .i64 (cf.podsdown), .int .i64 (cf.pctdown), .int .i64 (cf.period), .int .i64 (cf.far), .int .i64 (cf.strikes), .int .i64 (cf.probe), .int .i64 (cf.sectors), .int .u64 (cf.seed)] 26 (0, 0)) :: ((nws.map fun p => repO p cf.window 0 0 0) ++ ((ols.map fun p => repO p cf.window 0 0 0) ++ M))))) (fun v M' h => by
          have hok1 : okK ⟨0, 0⟩ (sgen 1 0) 0 cf.grace = true := rfl
          rw [if_pos hok1] at h
          rw [show sgen 1 0 = 0 from rfl] at h
          rw [same_sym (tagOf_bd (macKey cf.seed rb_ rg_) (putM ⟨1, ((k : Nat) : Int), 0, 1, ep, va, 0⟩)) (tagOf_bd (macKey cf.seed ((k : Nat) : Int) 0) (putM ⟨1, ((k : Nat) : Int), 0, 1, ep, va, 0⟩)), ← hsm] at h
          cases sm with
          | true =>
            have hc : chkC (okK ⟨0, 0⟩ 0 0 cf.grace) true (mayP cf.window 0 0 1) (decide (ep < 0) || decide (cf.fresh ≤ IntKind.u64.wrap (ep - 0))) (decide ((0 : Int) < cf.m)) = 0 := chk0 rfl rfl (may0 hwin) (stale1 hepb hfr.2) (decide_eq_true (by omega))
            rcases h with ⟨h1, h2, h3⟩ | ⟨h1, h2, h3⟩
            · exact ⟨⟨1, ((k : Nat) : Int), 0, 1, ep, va, 0⟩, 0, 0, h2, .inl ⟨rfl, rfl, rfl⟩, h3⟩
            · exact absurd hc h1
          | false =>
            have hc : chkC (okK ⟨0, 0⟩ 0 0 cf.grace) false (mayP cf.window 0 0 1) (decide (ep < 0) || decide (cf.fresh ≤ IntKind.u64.wrap (ep - 0))) (decide ((0 : Int) < cf.m)) = 5 := chk5 rfl rfl
            rcases h with ⟨h1, h2, h3⟩ | ⟨h1, h2, h3⟩
            · exact absurd (hc.symm.trans h1) (by decide)
            · exact ⟨msZ, 5, _, by rw [hc] at h2; exact h2, .inr ⟨rfl, rfl⟩, h3⟩))) ?_
      rintro _ _ ⟨q, code, ref2, rfl, hq, rfl⟩
      refine TL.val rfl rfl (Nat.le_of_ble_eq_true rfl) (Val.move rfl) ?_
      refine TL.val rfl rfl (Nat.le_of_ble_eq_true rfl) (Val.extract rfl rfl) ?_
      refine TL.val rfl rfl (Nat.le_of_ble_eq_true rfl) (Val.extract rfl rfl) ?_
      refine TL.does (some 24) rfl rfl rfl (Does.alloc ze61 rfl) ?_
      rintro _ _ ⟨b14, rfl, rfl⟩
      first
        | refine TL.does none rfl rfl rfl (Does.store (i := 0) rfl rfl rfl sz61 rfl rfl (by first | exact Nat.le_of_ble_eq_true rfl | decide | omega) rfl rfl) ?_
        | refine TL.does none rfl rfl rfl (Does.store (i := 1) rfl rfl rfl sz61 rfl rfl (by first | exact Nat.le_of_ble_eq_true rfl | decide | omega) rfl rfl) ?_
        | refine TL.does none rfl rfl rfl (Does.store (i := 2) rfl rfl rfl sz61 rfl rfl (by first | exact Nat.le_of_ble_eq_true rfl | decide | omega) rfl rfl) ?_
        | refine TL.does none rfl rfl rfl (Does.store (i := 3) rfl rfl rfl sz61 rfl rfl (by first | exact Nat.le_of_ble_eq_true rfl | decide | omega) rfl rfl) ?_
        | refine TL.does none rfl rfl rfl (Does.store (i := 4) rfl rfl rfl sz61 rfl rfl (by first | exact Nat.le_of_ble_eq_true rfl | decide | omega) rfl rfl) ?_
        | refine TL.does none rfl rfl rfl (Does.store (i := 5) rfl rfl rfl sz61 rfl rfl (by first | exact Nat.le_of_ble_eq_true rfl | decide | omega) rfl rfl) ?_
        | refine TL.does none rfl rfl rfl (Does.store (i := 6) rfl rfl rfl sz61 rfl rfl (by first | exact Nat.le_of_ble_eq_true rfl | decide | omega) rfl rfl) ?_
        | refine TL.does none rfl rfl rfl (Does.store (i := 7) rfl rfl rfl sz61 rfl rfl (by first | exact Nat.le_of_ble_eq_true rfl | decide | omega) rfl rfl) ?_
        | refine TL.does none rfl rfl rfl (Does.store (i := 8) rfl rfl rfl sz61 rfl rfl (by first | exact Nat.le_of_ble_eq_true rfl | decide | omega) rfl rfl) ?_
        | refine TL.does none rfl rfl rfl (Does.store (i := 9) rfl rfl rfl sz61 rfl rfl (by first | exact Nat.le_of_ble_eq_true rfl | decide | omega) rfl rfl) ?_
      rintro _ _ ⟨rfl, rfl⟩
      refine TL.val rfl rfl (Nat.le_of_ble_eq_true rfl) (Val.assign rfl) ?_
      refine TL.nil ?_
      refine AtX.then ?_
      refine TC.env (E' := [(12, _), (15, _), (16, _), (17, _), (18, _), (23, _), (24, _), (25, _)]) (Sub.cons rfl (Sub.cons rfl (Sub.cons rfl (Sub.cons rfl (Sub.cons rfl (Sub.cons rfl (Sub.cons rfl (Sub.cons rfl (Sub.nil _))))))))) ?_
      refine TC.seq ?_
      refine TC.seq ?_
      refine TC.region ?_
      refine TL.val rfl rfl (Nat.le_of_ble_eq_true rfl) (Val.move rfl) ?_
      refine TL.val rfl rfl (Nat.le_of_ble_eq_true rfl) (Val.move rfl) ?_
      refine TL.val rfl rfl (Nat.le_of_ble_eq_true rfl) (Val.eqlI rfl rfl) ?_
      refine TL.val rfl rfl (Nat.le_of_ble_eq_true rfl) (Val.move rfl) ?_
      refine TL.gen (fun g15 hg15 => ?_)
      refine TL.gval rfl rfl (Nat.le_of_ble_eq_true rfl) rfl (Nat.le_of_ble_eq_true rfl) rfl (fun hg => by subst hg; exact (Val.move rfl)) ?_
      refine TL.gval rfl rfl (Nat.le_of_ble_eq_true rfl) rfl (Nat.le_of_ble_eq_true rfl) rfl (fun hg => by subst hg; exact (Val.eqlI rfl rfl)) ?_
      first
        | refine TL.val rfl rfl (Nat.le_of_ble_eq_true rfl) (Val.pickAnd rfl rfl rfl) ?_
        | refine TL.val rfl rfl (Nat.le_of_ble_eq_true rfl) (Val.pickOr rfl rfl rfl) ?_
        | refine TL.val rfl rfl (Nat.le_of_ble_eq_true rfl) (Val.pick rfl rfl rfl) ?_
      refine TL.nil ?_
      refine AtX.then ?_
      refine TC.env (E' := [(12, _), (18, _), (23, _), (24, _), (25, _), (107, _)]) (Sub.cons rfl (Sub.cons rfl (Sub.cons rfl (Sub.cons rfl (Sub.cons rfl (Sub.cons rfl (Sub.nil _))))))) ?_
      first | refine TC.condP rfl (fun c3 => ?_) (fun c3 => ?_) | refine TC.condN rfl (fun c3 => ?_) (fun c3 => ?_) | refine TC.condB rfl (fun c3 => ?_) (fun c3 => ?_) | refine TC.cond rfl (fun c3 => ?_) (fun c3 => ?_)
      · skip
        refine TC.env (E' := [(12, _), (18, _), (23, _), (24, _), (25, _)]) (Sub.cons rfl (Sub.cons rfl (Sub.cons rfl (Sub.cons rfl (Sub.cons rfl (Sub.nil _)))))) ?_
        refine TC.seq ?_
        have hbw : rb_ = ((k : Nat) : Int) ∧ rg_ = 0 := by simp at c3; exact ⟨of_decide_eq_true (hg15.symm.trans c3.1), c3.2⟩
        have hs : sm = true := by rw [hsm, hbw.1, hbw.2]; exact decide_eq_true (same_self (tagOf_bd _ _))
        have hc0 : code = 0 := by rcases hq with ⟨_, h, _⟩ | ⟨h, _⟩; exact h; rw [hs] at h; cases h
        have hq3 : q = ⟨1, ((k : Nat) : Int), 0, 1, ep, va, 0⟩ := by rcases hq with ⟨_, _, h⟩ | ⟨h, _⟩; exact h; rw [hs] at h; cases h
        refine TC.region ?_
        refine TL.does (some 108) rfl rfl rfl (Does.callF go35 rfl (told8_fn _)) ?_
        rintro _ _ ⟨rfl, rfl⟩
        refine TL.val rfl rfl (Nat.le_of_ble_eq_true rfl) (Val.move rfl) ?_
        refine TL.valYes rfl rfl (Nat.le_of_ble_eq_true rfl) rfl (Nat.le_of_ble_eq_true rfl) rfl (Val.same (v' := .bool true) (Val.move rfl) (congrArg Value.bool hs)) ?_
        first
          | refine TL.val rfl rfl (Nat.le_of_ble_eq_true rfl) (Val.same (v' := .bool true) (Val.pickAnd rfl rfl rfl) (rfl)) ?_
          | refine TL.val rfl rfl (Nat.le_of_ble_eq_true rfl) (Val.same (v' := .bool true) (Val.pickOr rfl rfl rfl) (rfl)) ?_
          | refine TL.val rfl rfl (Nat.le_of_ble_eq_true rfl) (Val.same (v' := .bool true) (Val.pick rfl rfl rfl) (rfl)) ?_
        refine TL.val rfl rfl (Nat.le_of_ble_eq_true rfl) (Val.move rfl) ?_
        refine TL.valYes rfl rfl (Nat.le_of_ble_eq_true rfl) rfl (Nat.le_of_ble_eq_true rfl) rfl (Val.move rfl) ?_
        refine TL.valYes rfl rfl (Nat.le_of_ble_eq_true rfl) rfl (Nat.le_of_ble_eq_true rfl) rfl (Val.same (v' := .bool true) (Val.eqlI rfl rfl) (congrArg Value.bool (decide_eq_true hc0))) ?_
        first
          | refine TL.val rfl rfl (Nat.le_of_ble_eq_true rfl) (Val.same (v' := .bool true) (Val.pickAnd rfl rfl rfl) (rfl)) ?_
          | refine TL.val rfl rfl (Nat.le_of_ble_eq_true rfl) (Val.same (v' := .bool true) (Val.pickOr rfl rfl rfl) (rfl)) ?_
          | refine TL.val rfl rfl (Nat.le_of_ble_eq_true rfl) (Val.same (v' := .bool true) (Val.pick rfl rfl rfl) (rfl)) ?_
        refine TL.val rfl rfl (Nat.le_of_ble_eq_true rfl) (Val.move rfl) ?_
        first
          | refine TL.valYes rfl rfl (Nat.le_of_ble_eq_true rfl) rfl (Nat.le_of_ble_eq_true rfl) rfl (Val.loadAgg 0 rfl ag61 sz61 rfl rfl rfl) ?_
          | refine TL.valYes rfl rfl (Nat.le_of_ble_eq_true rfl) rfl (Nat.le_of_ble_eq_true rfl) rfl (Val.loadAgg 1 rfl ag61 sz61 rfl rfl rfl) ?_
          | refine TL.valYes rfl rfl (Nat.le_of_ble_eq_true rfl) rfl (Nat.le_of_ble_eq_true rfl) rfl (Val.loadAgg 2 rfl ag61 sz61 rfl rfl rfl) ?_
          | refine TL.valYes rfl rfl (Nat.le_of_ble_eq_true rfl) rfl (Nat.le_of_ble_eq_true rfl) rfl (Val.loadAgg 3 rfl ag61 sz61 rfl rfl rfl) ?_
          | refine TL.valYes rfl rfl (Nat.le_of_ble_eq_true rfl) rfl (Nat.le_of_ble_eq_true rfl) rfl (Val.loadAgg 4 rfl ag61 sz61 rfl rfl rfl) ?_
          | refine TL.valYes rfl rfl (Nat.le_of_ble_eq_true rfl) rfl (Nat.le_of_ble_eq_true rfl) rfl (Val.loadAgg 5 rfl ag61 sz61 rfl rfl rfl) ?_
          | refine TL.valYes rfl rfl (Nat.le_of_ble_eq_true rfl) rfl (Nat.le_of_ble_eq_true rfl) rfl (Val.loadAgg 6 rfl ag61 sz61 rfl rfl rfl) ?_
          | refine TL.valYes rfl rfl (Nat.le_of_ble_eq_true rfl) rfl (Nat.le_of_ble_eq_true rfl) rfl (Val.loadAgg 7 rfl ag61 sz61 rfl rfl rfl) ?_
          | refine TL.valYes rfl rfl (Nat.le_of_ble_eq_true rfl) rfl (Nat.le_of_ble_eq_true rfl) rfl (Val.loadAgg 8 rfl ag61 sz61 rfl rfl rfl) ?_
          | refine TL.valYes rfl rfl (Nat.le_of_ble_eq_true rfl) rfl (Nat.le_of_ble_eq_true rfl) rfl (Val.loadAgg 9 rfl ag61 sz61 rfl rfl rfl) ?_
        first
          | refine TL.valYes rfl rfl (Nat.le_of_ble_eq_true rfl) rfl (Nat.le_of_ble_eq_true rfl) rfl (Val.loadAgg 0 rfl ag61 sz61 rfl rfl rfl) ?_
          | refine TL.valYes rfl rfl (Nat.le_of_ble_eq_true rfl) rfl (Nat.le_of_ble_eq_true rfl) rfl (Val.loadAgg 1 rfl ag61 sz61 rfl rfl rfl) ?_
          | refine TL.valYes rfl rfl (Nat.le_of_ble_eq_true rfl) rfl (Nat.le_of_ble_eq_true rfl) rfl (Val.loadAgg 2 rfl ag61 sz61 rfl rfl rfl) ?_
          | refine TL.valYes rfl rfl (Nat.le_of_ble_eq_true rfl) rfl (Nat.le_of_ble_eq_true rfl) rfl (Val.loadAgg 3 rfl ag61 sz61 rfl rfl rfl) ?_
          | refine TL.valYes rfl rfl (Nat.le_of_ble_eq_true rfl) rfl (Nat.le_of_ble_eq_true rfl) rfl (Val.loadAgg 4 rfl ag61 sz61 rfl rfl rfl) ?_
          | refine TL.valYes rfl rfl (Nat.le_of_ble_eq_true rfl) rfl (Nat.le_of_ble_eq_true rfl) rfl (Val.loadAgg 5 rfl ag61 sz61 rfl rfl rfl) ?_
          | refine TL.valYes rfl rfl (Nat.le_of_ble_eq_true rfl) rfl (Nat.le_of_ble_eq_true rfl) rfl (Val.loadAgg 6 rfl ag61 sz61 rfl rfl rfl) ?_
          | refine TL.valYes rfl rfl (Nat.le_of_ble_eq_true rfl) rfl (Nat.le_of_ble_eq_true rfl) rfl (Val.loadAgg 7 rfl ag61 sz61 rfl rfl rfl) ?_
          | refine TL.valYes rfl rfl (Nat.le_of_ble_eq_true rfl) rfl (Nat.le_of_ble_eq_true rfl) rfl (Val.loadAgg 8 rfl ag61 sz61 rfl rfl rfl) ?_
          | refine TL.valYes rfl rfl (Nat.le_of_ble_eq_true rfl) rfl (Nat.le_of_ble_eq_true rfl) rfl (Val.loadAgg 9 rfl ag61 sz61 rfl rfl rfl) ?_
        refine TL.valYes rfl rfl (Nat.le_of_ble_eq_true rfl) rfl (Nat.le_of_ble_eq_true rfl) rfl (Val.same (v' := .bool true) (Val.eqlMs (a := q) (b := ⟨1, ((k : Nat) : Int), 0, 1, ep, va, 0⟩) rfl rfl) (congrArg Value.bool (by rw [hq3]; exact eqbM_self _))) ?_
        first
          | refine TL.val rfl rfl (Nat.le_of_ble_eq_true rfl) (Val.same (v' := .bool true) (Val.pickAnd rfl rfl rfl) (rfl)) ?_
          | refine TL.val rfl rfl (Nat.le_of_ble_eq_true rfl) (Val.same (v' := .bool true) (Val.pickOr rfl rfl rfl) (rfl)) ?_
          | refine TL.val rfl rfl (Nat.le_of_ble_eq_true rfl) (Val.same (v' := .bool true) (Val.pick rfl rfl rfl) (rfl)) ?_
        refine TL.val rfl rfl (Nat.le_of_ble_eq_true rfl) (Val.assign rfl) ?_
        refine TL.nil ?_
        refine AtX.then ?_
        refine TC.env (E' := [(12, _), (23, _), (25, _)]) (Sub.cons rfl (Sub.cons rfl (Sub.cons rfl (Sub.nil _)))) ?_
        refine TC.ret1 (fn := Try.f7) (fun _ _ h => h) rfl (RV.tmp rfl) (M' := M) (by repeat (first | exact ro_refl | exact ro_pre | refine ro_tail ?_ | refine ro_app ?_)) ?_
        exact ⟨rfl, rfl⟩
      · skip
        refine TC.env (E' := [(12, _), (23, _), (25, _)]) (Sub.cons rfl (Sub.cons rfl (Sub.cons rfl (Sub.nil _)))) ?_
        refine TC.skip ?_
        refine AtX.then ?_
        refine TC.env (E' := [(12, _), (23, _), (25, _)]) (Sub.cons rfl (Sub.cons rfl (Sub.cons rfl (Sub.nil _)))) ?_
        refine TC.seq ?_
        refine TC.region ?_
        refine TL.does (some 121) rfl rfl rfl (Does.callF go35 rfl (told8_fn _)) ?_
        rintro _ _ ⟨rfl, rfl⟩
        refine TL.val rfl rfl (Nat.le_of_ble_eq_true rfl) (Val.move rfl) ?_
        refine TL.valYes rfl rfl (Nat.le_of_ble_eq_true rfl) rfl (Nat.le_of_ble_eq_true rfl) rfl (Val.move rfl) ?_
        refine TL.valYes rfl rfl (Nat.le_of_ble_eq_true rfl) rfl (Nat.le_of_ble_eq_true rfl) rfl (Val.eqlI rfl rfl) ?_
        refine TL.valYes rfl rfl (Nat.le_of_ble_eq_true rfl) rfl (Nat.le_of_ble_eq_true rfl) rfl (Val.move rfl) ?_
        refine TL.valYes rfl rfl (Nat.le_of_ble_eq_true rfl) rfl (Nat.le_of_ble_eq_true rfl) rfl (Val.same (v' := .bool true) (Val.eqlB rfl rfl un4) (congrArg Value.bool (by rcases hq with ⟨h, h2, _⟩ | ⟨h, h2⟩ <;> simp [h, h2]))) ?_
        first
          | refine TL.val rfl rfl (Nat.le_of_ble_eq_true rfl) (Val.same (v' := .bool true) (Val.pickAnd rfl rfl rfl) (rfl)) ?_
          | refine TL.val rfl rfl (Nat.le_of_ble_eq_true rfl) (Val.same (v' := .bool true) (Val.pickOr rfl rfl rfl) (rfl)) ?_
          | refine TL.val rfl rfl (Nat.le_of_ble_eq_true rfl) (Val.same (v' := .bool true) (Val.pick rfl rfl rfl) (rfl)) ?_
        refine TL.val rfl rfl (Nat.le_of_ble_eq_true rfl) (Val.move rfl) ?_
        refine TL.valYes rfl rfl (Nat.le_of_ble_eq_true rfl) rfl (Nat.le_of_ble_eq_true rfl) rfl (Val.move rfl) ?_
        refine TL.valYes rfl rfl (Nat.le_of_ble_eq_true rfl) rfl (Nat.le_of_ble_eq_true rfl) rfl (Val.eqlI rfl rfl) ?_
        refine TL.valYes rfl rfl (Nat.le_of_ble_eq_true rfl) rfl (Nat.le_of_ble_eq_true rfl) rfl (Val.move rfl) ?_
        refine TL.gen (fun gA hgA => ?_)
        refine TL.gval rfl rfl (Nat.le_of_ble_eq_true rfl) rfl (Nat.le_of_ble_eq_true rfl) rfl (fun hg => by subst hg; exact (Val.move rfl)) ?_
        refine TL.gval rfl rfl (Nat.le_of_ble_eq_true rfl) rfl (Nat.le_of_ble_eq_true rfl) rfl (fun hg => by subst hg; exact (Val.eqlI rfl rfl)) ?_
        first
          | refine TL.valYes rfl rfl (Nat.le_of_ble_eq_true rfl) rfl (Nat.le_of_ble_eq_true rfl) rfl (Val.same (v' := .bool true) (Val.pickAnd rfl rfl rfl) (congrArg Value.bool (by rcases hq with ⟨h, h2, _⟩ | ⟨h, h2⟩ <;> simp [hgA, h2]))) ?_
          | refine TL.valYes rfl rfl (Nat.le_of_ble_eq_true rfl) rfl (Nat.le_of_ble_eq_true rfl) rfl (Val.same (v' := .bool true) (Val.pickOr rfl rfl rfl) (congrArg Value.bool (by rcases hq with ⟨h, h2, _⟩ | ⟨h, h2⟩ <;> simp [hgA, h2]))) ?_
          | refine TL.valYes rfl rfl (Nat.le_of_ble_eq_true rfl) rfl (Nat.le_of_ble_eq_true rfl) rfl (Val.same (v' := .bool true) (Val.pick rfl rfl rfl) (congrArg Value.bool (by rcases hq with ⟨h, h2, _⟩ | ⟨h, h2⟩ <;> simp [hgA, h2]))) ?_
        first
          | refine TL.val rfl rfl (Nat.le_of_ble_eq_true rfl) (Val.same (v' := .bool true) (Val.pickAnd rfl rfl rfl) (rfl)) ?_
          | refine TL.val rfl rfl (Nat.le_of_ble_eq_true rfl) (Val.same (v' := .bool true) (Val.pickOr rfl rfl rfl) (rfl)) ?_
          | refine TL.val rfl rfl (Nat.le_of_ble_eq_true rfl) (Val.same (v' := .bool true) (Val.pick rfl rfl rfl) (rfl)) ?_
        refine TL.val rfl rfl (Nat.le_of_ble_eq_true rfl) (Val.assign rfl) ?_
        refine TL.nil ?_
        refine AtX.then ?_
        refine TC.env (E' := [(12, _)]) (Sub.cons rfl (Sub.nil _)) ?_
        refine TC.ret1 (fn := Try.f7) (fun _ _ h => h) rfl (RV.tmp rfl) (M' := M) (by repeat (first | exact ro_refl | exact ro_pre | refine ro_tail ?_ | refine ro_app ?_)) ?_
        exact ⟨rfl, rfl⟩

end Go.Proofs.Ytphoapajlcaoeaa
/- walks -/
set_option linter.unusedVariables false
set_option linter.unusedSimpArgs false
set_option maxRecDepth 100000
set_option maxHeartbeats 4000000
namespace Go.Proofs.Ytphoapajlcaoeaa
open Go Go.X
structure OS where
  i : Nat
  L : Hp
  on : List On
  nw : List Nat
  ol : List Nat
  x : On
  ak : Int
  p : Nat
  p2 : Nat
  ip : Nat
  ip2 : Nat
  js : Nat
  jb : Nat
  t1 : Int
  b1 : Int
  t2 : Int
  b2 : Int
structure OSI (w now seed : Int) (N : Nat) (r : Int) (sb : Nat) (be : Nat × Obj) (o : OS) : Prop where
  hir : (o.i : Int) ≤ r
  hon : o.on.length = N
  hnw : o.nw.length = N
  hol : o.ol.length = N
  hx : o.on[0]? = some o.x
  hxg : o.x.gen = (o.i : Nat)
  hxs : o.x.since = 0 ∧ o.i = 0 ∨ o.x.since = now
  hasb : 0 ≤ o.ak ∧ o.ak ≤ 4 + 2 * (o.i : Int)
  hp : o.nw[0]? = some o.p
  hp2 : o.ol[0]? = some o.p2
  hrep : o.L[o.ip]? = some (repO o.p w o.t1 o.b1 0)
  hrep2 : o.L[o.ip2]? = some (repO o.p2 w o.t2 o.b2 0)
  hsob : o.L[o.js]? = some (sobj sb seed 0 (o.i : Nat) o.t1)
  hjb : o.L[o.jb]? = some be
  ht1 : 0 ≤ o.t1 ∧ o.t1 ≤ 1
  ht2 : 0 ≤ o.t2 ∧ o.t2 ≤ 2
  h0 : o.i = 0 → o.t1 = 1 ∧ o.b1 = nextB w 0
  h1 : o.i = 1 → o.t2 = 2 ∧ o.b2 = nextB w (nextB w 0)
  has1 : True = True
def tyO (x : Nat × Obj) : Nat := match x.2 with | .cells _ T _ => T | _ => 0
theorem ne_ty {a b : Nat × Obj} (h : tyO a ≠ tyO b) : a ≠ b := fun e => h (congrArg tyO e)
theorem get_l {L M : Hp} {i : Nat} {x : Nat × Obj} (h : L[i]? = some x) : (L ++ M)[i]? = some x := by
  rw [List.getElem?_append_left (List.getElem?_eq_some_iff.1 h).1]; exact h
theorem set_l {L M : Hp} {i : Nat} {x y : Nat × Obj} (h : L[i]? = some x) : (L ++ M).set i y = L.set i y ++ M := List.set_append_left _ _ (List.getElem?_eq_some_iff.1 h).1
theorem get_set_ty {L : Hp} {i j : Nat} {x y z b : Nat × Obj} (h : L[i]? = some x) (hj : L[j]? = some y) (ht : tyO x ≠ tyO y) : (b :: L.set j z)[i + 1]? = some x := by
  show (L.set j z)[i]? = _
  rw [List.getElem?_set_ne]
  · exact h
  · intro e; subst e; rw [h] at hj; exact ht (congrArg tyO (Option.some.inj hj))
theorem get_set_eq {L : Hp} {j : Nat} {y z b : Nat × Obj} (hj : L[j]? = some y) : (b :: L.set j z)[j + 1]? = some z := by
  show (L.set j z)[j]? = _
  rw [List.getElem?_set_self (List.getElem?_eq_some_iff.1 hj).1]
theorem rep_fst {L : Hp} {nws ols : List Nat} {w : Int} {p p2 : Nat} {M : Hp} (hp : nws[0]? = some p) : (L ++ ((nws.map fun p => repO p w 0 0 0) ++ ((ols.map fun p => repO p w 0 0 0) ++ M)))[L.length]? = some (repO (if sgen 1 0 = (⟨0, 0⟩ : On).gen then p else p2) w 0 0 0) := by
  rw [List.getElem?_append_right (Nat.le_refl _), Nat.sub_self, List.getElem?_append_left (by simp; exact (List.getElem?_eq_some_iff.1 hp).1), List.getElem?_map, hp]
  rfl
theorem mayNext {w top bits : Int} (h : 1 ≤ w ∧ w ≤ 64) : mayP w top bits (top + 1) = true := by
  unfold mayP
  rw [decide_eq_false (by omega), decide_eq_true (by omega)]; rfl
theorem mayNo1 {w : Int} (h : 1 ≤ w ∧ w ≤ 64) : mayP w 1 (nextB w 0) 1 = false := by
  obtain ⟨n, rfl⟩ : ∃ n : Nat, w = n := ⟨w.toNat, by omega⟩
  have h2 : ∀ n : Fin 65, 1 ≤ n.val → mayP (n.val : Int) 1 (nextB (n.val : Int) 0) 1 = false := by decide +kernel
  exact h2 ⟨n, by omega⟩ (by show 1 ≤ n; omega)
theorem mayNo2 {w : Int} (h : 1 ≤ w ∧ w ≤ 64) : mayP w 2 (nextB w (nextB w 0)) 1 = false := by
  obtain ⟨n, rfl⟩ : ∃ n : Nat, w = n := ⟨w.toNat, by omega⟩
  have h2 : ∀ n : Fin 65, 1 ≤ n.val → mayP (n.val : Int) 2 (nextB (n.val : Int) (nextB (n.val : Int) 0)) 1 = false := by decide +kernel
  exact h2 ⟨n, by omega⟩ (by show 1 ≤ n; omega)
theorem staleN {f t : Int} (ht : 0 ≤ t ∧ t ≤ 1000) (h : 1 ≤ f) : (decide (t < t) || decide (f ≤ IntKind.u64.wrap (t - t))) = false := by
  rw [decide_eq_false (by omega), decide_eq_false (by rw [w_u64 (by omega) (by omega)]; omega)]; rfl
theorem selrep {x : On} {i p p2 ip ip2 : Nat} {w t1 t2 b1 b2 : Int} {T : Hp} (hxg : x.gen = (i : Nat)) (h1 : T[ip]? = some (repO p w t1 b1 0)) (h2 : T[ip2]? = some (repO p2 w t2 b2 0)) :
    T[if i = 0 then ip else ip2]? = some (repO (if sgen 1 0 = x.gen then p else p2) w (if i = 0 then t1 else t2) (if i = 0 then b1 else b2) 0) := by
  have hs : sgen 1 0 = 0 := rfl
  rw [hs, hxg]
  by_cases h : i = 0
  · subst h; simpa using h1
  · rw [if_neg h, if_neg h, if_neg h, if_neg (by omega)]; exact h2
theorem okOld {x : On} {i : Nat} {now g : Int} (hxg : x.gen = (i : Nat)) (hxs : x.since = 0 ∧ i = 0 ∨ x.since = now) (hi : i < 2) (hg : 1 ≤ g) : okK x 0 now g = true := by
  unfold okK
  rw [hxg]
  rcases Nat.eq_zero_or_pos i with h | h
  · subst h; rfl
  · have : i = 1 := by omega
    subst this
    rcases hxs with ⟨_, h⟩ | h
    · cases h
    · rw [h, decide_eq_true (p := now < now + g) (by omega)]; rfl
theorem okGone {x : On} {i : Nat} {now g : Int} (hxg : x.gen = (i : Nat)) (hi : 2 ≤ i) : okK x 0 now g = false := by
  unfold okK
  rw [hxg, decide_eq_false (by omega), decide_eq_false (by omega)]; rfl
theorem oldNo {w t1 t2 b1 b2 : Int} {i : Nat} (hw : 1 ≤ w ∧ w ≤ 64) (h0 : i = 0 → t1 = 1 ∧ b1 = nextB w 0) (h1 : i = 1 → t2 = 2 ∧ b2 = nextB w (nextB w 0)) (hi : i < 2) : mayP w (if i = 0 then t1 else t2) (if i = 0 then b1 else b2) 1 = false := by
  rcases Nat.eq_zero_or_pos i with h | h
  · obtain ⟨e1, e2⟩ := h0 h
    rw [if_pos h, if_pos h, e1, e2]; exact mayNo1 hw
  · obtain ⟨e1, e2⟩ := h1 (by omega)
    rw [if_neg (by omega), if_neg (by omega), e1, e2]; exact mayNo2 hw
section
variable {nws ols : List Nat} {w : Int} {p p2 N : Nat} {M : Hp} {a b c d e y : Nat × Obj}
theorem set_qq (hp : nws[0]? = some p) : (a :: b :: c :: d :: e :: ((nws.map fun p => repO p w 0 0 0) ++ (ols.map fun p => repO p w 0 0 0)).set 0 y) ++ M = a :: b :: c :: d :: e :: ((nws.map fun p => repO p w 0 0 0) ++ ((ols.map fun p => repO p w 0 0 0) ++ M)).set 0 y := by
  have hl := (List.getElem?_eq_some_iff.1 hp).1
  simp only [List.cons_append]
  rw [List.set_append_left _ _ (by simpa using hl), List.set_append_left _ _ (by simpa using hl), List.append_assoc]
theorem get_qq0 (hp : nws[0]? = some p) : (a :: b :: c :: d :: e :: ((nws.map fun p => repO p w 0 0 0) ++ (ols.map fun p => repO p w 0 0 0)).set 0 y)[5]? = some y := by
  have hl := (List.getElem?_eq_some_iff.1 hp).1
  show (((nws.map fun p => repO p w 0 0 0) ++ (ols.map fun p => repO p w 0 0 0)).set 0 y)[0]? = some y
  rw [List.getElem?_set_self (by simp; omega)]
theorem get_qq (hp : nws[0]? = some p) : ((a :: b :: c :: d :: e :: ((nws.map fun p => repO p w 0 0 0) ++ (ols.map fun p => repO p w 0 0 0)).set 0 y) ++ M)[5]? = some y := get_l (get_qq0 hp)
theorem get_qq2 (hn : nws.length = N) (hp : ols[0]? = some p2) (h0 : 0 < N := by omega) : (a :: b :: c :: d :: e :: ((nws.map fun p => repO p w 0 0 0) ++ (ols.map fun p => repO p w 0 0 0)).set 0 y)[5 + N]? = some (repO p2 w 0 0 0) := by
  rw [Nat.add_comm]
  show (((nws.map fun p => repO p w 0 0 0) ++ (ols.map fun p => repO p w 0 0 0)).set 0 y)[N]? = _
  rw [List.getElem?_set_ne (by omega), List.getElem?_append_right (by simp; omega)]
  simp [hn, hp]
end
theorem OSI_next {w now seed r : Int} {N sb i ip js jb p p2 pn : Nat} {be br bq : Nat × Obj} {L : Hp} {on : List On} {nw ol : List Nat} {ak t1 b1 : Int} 
    (hrep1 : (br :: L)[ip + 1]? = some (repO p w t1 b1 0)) (hjs : (br :: L)[js + 1]? = some (sobj sb seed 0 ((i : Nat) + 1) 0)) (hjb : (br :: L)[jb + 1]? = some be) (hp : nw[0]? = some p) (hp2 : ol[0]? = some p2)
    (hon : on.length = N) (hnw : nw.length = N) (hol : ol.length = N) (hir : ((i : Nat) : Int) < r) (hasb : 0 ≤ ak ∧ ak ≤ 4 + 2 * (i : Int)) (ht1 : 0 ≤ t1 ∧ t1 ≤ 1) (h0 : i = 0 → t1 = 1 ∧ b1 = nextB w 0) (hbe : tyO be = 5 := by rfl) :
    OSI w now seed N r sb be ⟨i + 1, repO pn w 0 0 0 :: (bq :: (br :: L)).set (ip + 2) (repO p w (t1 + 1) (nextB w b1) 0), on.set 0 ⟨(i : Nat) + 1, now⟩, nw.set 0 pn, ol.set 0 p, ⟨(i : Nat) + 1, now⟩, ak + 1 + 1, pn, p, 0, ip + 3, js + 3, jb + 3, 0, 0, t1 + 1, nextB w b1⟩ := by
  have hN1 := (List.getElem?_eq_some_iff.1 hp).1
  have hN2 := (List.getElem?_eq_some_iff.1 hp2).1
  have hset : (bq :: (br :: L)).set (ip + 2) (repO p w (t1 + 1) (nextB w b1) 0) = bq :: (br :: L).set (ip + 1) (repO p w (t1 + 1) (nextB w b1) 0) := rfl
  refine ⟨by push_cast; omega, by simpa using hon, by simpa using hnw, by simpa using hol, ?_, by push_cast; rfl, .inr rfl, ⟨by show 0 ≤ ak + 1 + 1; omega, by show ak + 1 + 1 ≤ 4 + 2 * ((i + 1 : Nat) : Int); push_cast; omega⟩, ?_, ?_, rfl, ?_, ?_, ?_, (by show (0 : Int) ≤ 0 ∧ (0 : Int) ≤ 1; decide), (by show 0 ≤ t1 + 1 ∧ t1 + 1 ≤ 2; omega), fun h => absurd h (by show ¬ (i + 1 = 0); omega), ?_, rfl⟩
  · exact List.getElem?_set_self (by omega)
  · exact List.getElem?_set_self hN1
  · exact List.getElem?_set_self hN2
  · rw [hset]; exact get_set_eq (b := bq) hrep1
  · rw [hset]; push_cast; exact get_set_ty (b := bq) hjs hrep1 (by show (121 : Nat) ≠ 154; decide)
  · rw [hset]; exact get_set_ty (b := bq) hjb hrep1 (by rw [hbe]; show (5 : Nat) ≠ 154; decide)
  · intro h
    have hi0 : i = 0 := by simpa using h
    obtain ⟨e1, e2⟩ := h0 hi0
    simp only
    rw [e1, e2]; exact ⟨rfl, rfl⟩
/-- quorumite/quorumitelaw8.VerifyOnce -/
theorem VerifyOnce_fn (zs : List Int) (A : Option Addr) (n cA : Nat) (value later turns : Int) (M : Hp) (hA : RdS M A (zs.map (Value.int .i64))) (hn : n = zs.length) : FnC Try.prog 6 #[.slice A n cA, .int .i64 value, .int .i64 later, .int .i64 turns] M (fun v M' => v = .bool true ∧ M = M') := by
  refine FnC.intro Try.func6 rfl 156 rfl (by simp) (fun z => ?_)
  refine TC.env (E' := [(0, _), (1, _), (2, _), (3, _)]) (Sub.cons rfl (Sub.cons rfl (Sub.cons rfl (Sub.cons rfl (Sub.nil _))))) ?_
  refine TC.seq ?_
  refine TC.region ?_
  refine TL.val rfl rfl (Nat.le_of_ble_eq_true rfl) (Val.assign rfl) ?_
  refine TL.nil ?_
  refine AtX.then ?_
  refine TC.seq ?_
  refine TC.region ?_
  refine TL.val rfl rfl (Nat.le_of_ble_eq_true rfl) (Val.move rfl) ?_
  refine TL.does (some 27) rfl rfl rfl (Does.callF go11 rfl (Fit_fn zs A n cA _ hA hn)) ?_
  rintro _ _ ⟨cf, rfl, hcf, rfl⟩
  have hn16 := hcf.n
  have hfr := hcf.fresh
  have hmm := hcf.m
  have hwin := hcf.window
  have hgrc := hcf.grace
  obtain ⟨N, hN⟩ : ∃ N : Nat, cf.n = N := ⟨cf.n.toNat, by omega⟩
  refine TL.does (some 9) rfl rfl rfl (Does.alloc ze26 rfl) ?_
  rintro _ _ ⟨b2, rfl, rfl⟩
  refine TL.does none rfl rfl rfl (Does.storeR (ys' := [.int .i64 (cf.n), .int .i64 (cf.f), .int .i64 (cf.m), .int .i64 (cf.quorum), .int .i64 (cf.fresh), .int .i64 (cf.grace), .int .i64 (cf.window), .int .i64 (cf.t0), .int .i64 (cf.t1), .int .i64 (cf.t2), .int .i64 (cf.t3), .int .i64 (cf.tol), .int .i64 (cf.min), .int .i64 (cf.max), .int .i64 (cf.calmup), .int .i64 (cf.calmdown), .int .i64 (cf.podsup), .int .i64 (cf.pctup), .int .i64 (cf.podsdown), .int .i64 (cf.pctdown), .int .i64 (cf.period), .int .i64 (cf.far), .int .i64 (cf.strikes), .int .i64 (cf.probe), .int .i64 (cf.sectors), .int .u64 (cf.seed)]) 0 rfl rfl rfl sz26 rfl rfl (by exact Nat.le_of_ble_eq_true rfl) rfl) ?_
  rintro _ _ ⟨rfl, rfl⟩
  refine TL.nil ?_
  refine AtX.then ?_
  refine TC.env (E' := [(1, _), (2, _), (3, _), (8, _), (9, _)]) (Sub.cons rfl (Sub.cons rfl (Sub.cons rfl (Sub.cons rfl (Sub.cons rfl (Sub.nil _)))))) ?_
  refine TC.seq ?_
  refine TC.drawL ((b2, .cells #[.int .i64 (cf.n), .int .i64 (cf.f), .int .i64 (cf.m), .int .i64 (cf.quorum), .int .i64 (cf.fresh), .int .i64 (cf.grace), .int .i64 (cf.window), .int .i64 (cf.t0), .int .i64 (cf.t1), .int .i64 (cf.t2), .int .i64 (cf.t3), .int .i64 (cf.tol), .int .i64 (cf.min), .int .i64 (cf.max), .int .i64 (cf.calmup), .int .i64 (cf.calmdown), .int .i64 (cf.podsup), .int .i64 (cf.pctup), .int .i64 (cf.podsdown), .int .i64 (cf.pctdown), .int .i64 (cf.period), .int .i64 (cf.far), .int .i64 (cf.strikes), .int .i64 (cf.probe), .int .i64 (cf.sectors), .int .u64 (cf.seed)] 26 (0, 0)) :: M) mixed 7 ?_
  refine TA.tk 0 1 rfl rfl rfl (Val.loadAgg (vs := [.int .i64 (cf.n), .int .i64 (cf.f), .int .i64 (cf.m), .int .i64 (cf.quorum), .int .i64 (cf.fresh), .int .i64 (cf.grace), .int .i64 (cf.window), .int .i64 (cf.t0), .int .i64 (cf.t1), .int .i64 (cf.t2), .int .i64 (cf.t3), .int .i64 (cf.tol), .int .i64 (cf.min), .int .i64 (cf.max), .int .i64 (cf.calmup), .int .i64 (cf.calmdown), .int .i64 (cf.podsup), .int .i64 (cf.pctup), .int .i64 (cf.podsdown), .int .i64 (cf.pctdown), .int .i64 (cf.period), .int .i64 (cf.far), .int .i64 (cf.strikes), .int .i64 (cf.probe), .int .i64 (cf.sectors), .int .u64 (cf.seed)]) 0 rfl ag26 sz26 rfl rfl rfl) ?_
  refine TA.tk 2 5 rfl rfl rfl (Val.fieldAddr rfl fl26_22 sz24 rfl) ?_
  first
    | refine TA.tk 3 13 rfl rfl rfl (Val.load 0 rfl ag24 rfl rfl) ?_
    | refine TA.tk 3 13 rfl rfl rfl (Val.load 1 rfl ag24 rfl rfl) ?_
    | refine TA.tk 3 13 rfl rfl rfl (Val.load 2 rfl ag24 rfl rfl) ?_
    | refine TA.tk 3 13 rfl rfl rfl (Val.load 3 rfl ag24 rfl rfl) ?_
    | refine TA.tk 3 13 rfl rfl rfl (Val.load 4 rfl ag24 rfl rfl) ?_
    | refine TA.tk 3 13 rfl rfl rfl (Val.load 5 rfl ag24 rfl rfl) ?_
    | refine TA.tk 3 13 rfl rfl rfl (Val.load 6 rfl ag24 rfl rfl) ?_
    | refine TA.tk 3 13 rfl rfl rfl (Val.load 7 rfl ag24 rfl rfl) ?_
    | refine TA.tk 3 13 rfl rfl rfl (Val.load 8 rfl ag24 rfl rfl) ?_
    | refine TA.tk 3 13 rfl rfl rfl (Val.load 9 rfl ag24 rfl rfl) ?_
    | refine TA.tk 3 13 rfl rfl rfl (Val.load 10 rfl ag24 rfl rfl) ?_
    | refine TA.tk 3 13 rfl rfl rfl (Val.load 11 rfl ag24 rfl rfl) ?_
  refine TA.one 1 (by kernel_rfl) ?_
  refine TO.dz 15 (some 29) rfl rfl rfl rfl (Does.callF go29 rfl (gNew_fn cf N _ hcf hN)) ?_
  rintro _ _ ⟨gb, rb, lb, nb, cn, sn, ob, co, so, nws, ols, rfl, hnl, hol, rfl⟩
  refine roK ?_
  refine TA.one 4 (by kernel_rfl) ?_
  refine TO.dz 31 (some 32) rfl rfl rfl rfl (Does.callF go30 rfl (sNew_fn cf.seed 0 _ ⟨by decide, by decide⟩)) ?_
  rintro _ _ ⟨sb, rfl, rfl⟩
  refine roK ?_
  refine TA.tk 5 63 rfl rfl rfl (Val.assign rfl) ?_
  refine TA.tk 6 127 rfl rfl rfl (Val.assign rfl) ?_
  refine TA.done (by kernel_rfl) ?_
  refine AtX.then ?_
  refine TC.env (E' := [(1, _), (2, _), (3, _), (8, _), (10, _), (11, _)]) (Sub.cons rfl (Sub.cons rfl (Sub.cons rfl (Sub.cons rfl (Sub.cons rfl (Sub.cons rfl (Sub.nil _))))))) ?_
  refine TC.seq ?_
  refine TC.seq ?_
  refine TC.heap (M' := gateO gb cf rb (some ⟨nb, 0, none⟩) N cn (some ⟨ob, 0, none⟩) N co 0 :: ringO rb cf.seed lb N cf.grace 0 :: (lb, row 161 ((List.replicate N (⟨0, 0⟩ : On)).flatMap On.cs)) :: (nb, row 118 (nws.map pp ++ sn)) :: (ob, row 118 (ols.map pp ++ so)) :: ((b2, .cells #[.int .i64 (cf.n), .int .i64 (cf.f), .int .i64 (cf.m), .int .i64 (cf.quorum), .int .i64 (cf.fresh), .int .i64 (cf.grace), .int .i64 (cf.window), .int .i64 (cf.t0), .int .i64 (cf.t1), .int .i64 (cf.t2), .int .i64 (cf.t3), .int .i64 (cf.tol), .int .i64 (cf.min), .int .i64 (cf.max), .int .i64 (cf.calmup), .int .i64 (cf.calmdown), .int .i64 (cf.podsup), .int .i64 (cf.pctup), .int .i64 (cf.podsdown), .int .i64 (cf.pctdown), .int .i64 (cf.period), .int .i64 (cf.far), .int .i64 (cf.strikes), .int .i64 (cf.probe), .int .i64 (cf.sectors), .int .u64 (cf.seed)] 26 (0, 0)) :: sobj sb cf.seed 0 0 0 :: ((nws.map fun p => repO p cf.window 0 0 0) ++ ((ols.map fun p => repO p cf.window 0 0 0) ++ M)))) ro_bxf ?_
  refine TC.region ?_
  refine TL.val rfl rfl (Nat.le_of_ble_eq_true rfl) (Val.move rfl) ?_
  refine TL.val rfl rfl (Nat.le_of_ble_eq_true rfl) (Val.eqlNil rfl rfl pt55) ?_
  refine TL.val rfl rfl (Nat.le_of_ble_eq_true rfl) (Val.move rfl) ?_
  refine TL.valYes rfl rfl (Nat.le_of_ble_eq_true rfl) rfl (Nat.le_of_ble_eq_true rfl) rfl (Val.move rfl) ?_
  refine TL.valYes rfl rfl (Nat.le_of_ble_eq_true rfl) rfl (Nat.le_of_ble_eq_true rfl) rfl (Val.eqlNil rfl rfl pt57) ?_
  first
    | refine TL.val rfl rfl (Nat.le_of_ble_eq_true rfl) (Val.pickAnd rfl rfl rfl) ?_
    | refine TL.val rfl rfl (Nat.le_of_ble_eq_true rfl) (Val.pickOr rfl rfl rfl) ?_
    | refine TL.val rfl rfl (Nat.le_of_ble_eq_true rfl) (Val.pick rfl rfl rfl) ?_
  refine TL.nil ?_
  refine AtX.then ?_
  refine TC.env (E' := [(1, _), (2, _), (3, _), (8, _), (10, _), (11, _), (38, _)]) (Sub.cons rfl (Sub.cons rfl (Sub.cons rfl (Sub.cons rfl (Sub.cons rfl (Sub.cons rfl (Sub.cons rfl (Sub.nil _)))))))) ?_
  first | refine TC.condP rfl (fun c1 => ?_) (fun c1 => ?_) | refine TC.condN rfl (fun c1 => ?_) (fun c1 => ?_) | refine TC.condB rfl (fun c1 => ?_) (fun c1 => ?_) | refine TC.cond rfl (fun c1 => ?_) (fun c1 => ?_)
  · skip
    (exfalso; simp at c1)
  · skip
    refine TC.env (E' := [(1, _), (2, _), (3, _), (8, _), (10, _), (11, _)]) (Sub.cons rfl (Sub.cons rfl (Sub.cons rfl (Sub.cons rfl (Sub.cons rfl (Sub.cons rfl (Sub.nil _))))))) ?_
    refine TC.skip ?_
    refine AtX.then ?_
    refine TC.env (E' := [(1, _), (2, _), (3, _), (8, _), (10, _), (11, _)]) (Sub.cons rfl (Sub.cons rfl (Sub.cons rfl (Sub.cons rfl (Sub.cons rfl (Sub.cons rfl (Sub.nil _))))))) ?_
    refine TC.seq ?_
    obtain ⟨va, hva, g1_, l1_⟩ := rem_ex (m := IntKind.u64.wrap value) (d := 1099511627776) (by rw [w_u64m]; omega) (by decide)
    have hm : mayM ⟨1, ((0 : Nat) : Int), 0, 1, 0, va, 0⟩ = true := mayM_iff.2 (by simp; omega)
    obtain ⟨p, hp⟩ : ∃ p, nws[0]? = some p := ⟨_, List.getElem?_eq_getElem (by omega)⟩
    obtain ⟨p2, hp2⟩ : ∃ p2, ols[0]? = some p2 := ⟨_, List.getElem?_eq_getElem (by omega)⟩
    have hx0 : (List.replicate N (⟨0, 0⟩ : On))[0]? = some (⟨0, 0⟩ : On) := by rw [List.getElem?_replicate, if_pos (by omega)]
    refine TC.region ?_
    refine TL.val rfl rfl (Nat.le_of_ble_eq_true rfl) (Val.move rfl) ?_
    refine TL.val rfl rfl (Nat.le_of_ble_eq_true rfl) (Val.move rfl) ?_
    refine TL.val rfl rfl (Nat.le_of_ble_eq_true rfl) (Val.convI rfl iu2 in24 rfl) ?_
    refine TL.val rfl rfl (Nat.le_of_ble_eq_true rfl) (Val.rem rfl rfl (by decide) (r := va) hva) ?_
    refine TL.val rfl rfl (Nat.le_of_ble_eq_true rfl) (Val.convI rfl iu24 in2 (r := va) (w_i64 (by omega) (by omega))) ?_
    refine TL.does (some 45) rfl rfl rfl (Does.callF go31 rfl (sSample_fn sb 6 cf.seed 0 0 0 0 0 va _ rfl hm)) ?_
    rintro _ _ ⟨bE, cE, spE, rfl, hcE, rfl⟩
    refine TL.heap (M' := gateO gb cf rb (some ⟨nb, 0, none⟩) N cn (some ⟨ob, 0, none⟩) N co 0 :: ringO rb cf.seed lb N cf.grace 0 :: (lb, row 161 ((List.replicate N (⟨0, 0⟩ : On)).flatMap On.cs)) :: (nb, row 118 (nws.map pp ++ sn)) :: (ob, row 118 (ols.map pp ++ so)) :: ((bE, row 5 (bv (sealB (macKey cf.seed ((0 : Nat) : Int) 0) ⟨1, ((0 : Nat) : Int), 0, 1, 0, va, 0⟩) ++ spE)) :: (b2, .cells #[.int .i64 (cf.n), .int .i64 (cf.f), .int .i64 (cf.m), .int .i64 (cf.quorum), .int .i64 (cf.fresh), .int .i64 (cf.grace), .int .i64 (cf.window), .int .i64 (cf.t0), .int .i64 (cf.t1), .int .i64 (cf.t2), .int .i64 (cf.t3), .int .i64 (cf.tol), .int .i64 (cf.min), .int .i64 (cf.max), .int .i64 (cf.calmup), .int .i64 (cf.calmdown), .int .i64 (cf.podsup), .int .i64 (cf.pctup), .int .i64 (cf.podsdown), .int .i64 (cf.pctdown), .int .i64 (cf.period), .int .i64 (cf.far), .int .i64 (cf.strikes), .int .i64 (cf.probe), .int .i64 (cf.sectors), .int .u64 (cf.seed)] 26 (0, 0)) :: sobj sb cf.seed 0 0 (0 + 1) :: ((nws.map fun p => repO p cf.window 0 0 0) ++ ((ols.map fun p => repO p cf.window 0 0 0) ++ M)))) (fun w h => ro_mv (A := [_]) (L := [_, _, _, _, _]) w h) ?_
    refine TL.val rfl rfl (Nat.le_of_ble_eq_true rfl) (Val.move rfl) ?_
    refine TL.val rfl rfl (Nat.le_of_ble_eq_true rfl) (Val.extract rfl rfl) ?_
    refine TL.val rfl rfl (Nat.le_of_ble_eq_true rfl) (Val.extract rfl rfl) ?_
    refine TL.val rfl rfl (Nat.le_of_ble_eq_true rfl) (Val.assign rfl) ?_
    refine TL.val rfl rfl (Nat.le_of_ble_eq_true rfl) (Val.assign rfl) ?_
    refine TL.nil ?_
    refine AtX.then ?_
    refine TC.env (E' := [(2, _), (3, _), (8, _), (10, _), (11, _), (12, _), (13, _)]) (Sub.cons rfl (Sub.cons rfl (Sub.cons rfl (Sub.cons rfl (Sub.cons rfl (Sub.cons rfl (Sub.cons rfl (Sub.nil _)))))))) ?_
    refine TC.seq ?_
    refine TC.region ?_
    refine TL.val rfl rfl (Nat.le_of_ble_eq_true rfl) (Val.move rfl) ?_
    refine TL.val rfl rfl (Nat.le_of_ble_eq_true rfl) (Val.move rfl) ?_
    refine TL.does (some 51) rfl rfl rfl (Does.callF go32 rfl ((Check_nil gb rb lb nb cn ob co sn so cf N 0 0 (List.replicate N (⟨0, 0⟩ : On)) nws ols ((bE, row 5 (bv (sealB (macKey cf.seed ((0 : Nat) : Int) 0) ⟨1, ((0 : Nat) : Int), 0, 1, 0, va, 0⟩) ++ spE)) :: (b2, .cells #[.int .i64 (cf.n), .int .i64 (cf.f), .int .i64 (cf.m), .int .i64 (cf.quorum), .int .i64 (cf.fresh), .int .i64 (cf.grace), .int .i64 (cf.window), .int .i64 (cf.t0), .int .i64 (cf.t1), .int .i64 (cf.t2), .int .i64 (cf.t3), .int .i64 (cf.tol), .int .i64 (cf.min), .int .i64 (cf.max), .int .i64 (cf.calmup), .int .i64 (cf.calmdown), .int .i64 (cf.podsup), .int .i64 (cf.pctup), .int .i64 (cf.podsdown), .int .i64 (cf.pctdown), .int .i64 (cf.period), .int .i64 (cf.far), .int .i64 (cf.strikes), .int .i64 (cf.probe), .int .i64 (cf.sectors), .int .u64 (cf.seed)] 26 (0, 0)) :: sobj sb cf.seed 0 0 (0 + 1) :: ((nws.map fun p => repO p cf.window 0 0 0) ++ ((ols.map fun p => repO p cf.window 0 0 0) ++ M))) hN (by simp) hnl hol hgrc ⟨by decide, by decide⟩ 0 ⟨0, 0⟩ hx0 ⟨by decide, by decide⟩ ⟨by decide, by decide⟩ 1 0 1 0 va 0 ⟨by decide, by decide⟩ (by decide) 0 hcf p p2 hp hp2 3 0 0 0 ⟨by decide, by decide⟩ (rep_fst (L := [_, _, _]) hp) ⟨by decide, by decide⟩ hm ⟨by decide, by decide⟩ (tagB (tagOf (macKey cf.seed ((0 : Nat) : Int) 0) (putM ⟨1, ((0 : Nat) : Int), 0, 1, 0, va, 0⟩))) (some ⟨bE, 0, none⟩) cE (rd_all (i := 0) (sp := spE) rfl) (by omega) (by simp)).mono (R' := fun v M' => v = .tuple #[.agg #[.int .i64 1, .int .i64 0, .int .i64 0, .int .i64 1, .int .i64 0, .int .i64 va, .int .i64 0], .int .i64 0] ∧ M' = (gateO gb cf rb (some ⟨nb, 0, none⟩) N cn (some ⟨ob, 0, none⟩) N co 0 :: ringO rb cf.seed lb N cf.grace (0 + 1) :: (lb, row 161 ((List.replicate N (⟨0, 0⟩ : On)).flatMap On.cs)) :: (nb, row 118 (nws.map pp ++ sn)) :: (ob, row 118 (ols.map pp ++ so)) :: ((bE, row 5 (bv (sealB (macKey cf.seed ((0 : Nat) : Int) 0) ⟨1, ((0 : Nat) : Int), 0, 1, 0, va, 0⟩) ++ spE)) :: (b2, .cells #[.int .i64 (cf.n), .int .i64 (cf.f), .int .i64 (cf.m), .int .i64 (cf.quorum), .int .i64 (cf.fresh), .int .i64 (cf.grace), .int .i64 (cf.window), .int .i64 (cf.t0), .int .i64 (cf.t1), .int .i64 (cf.t2), .int .i64 (cf.t3), .int .i64 (cf.tol), .int .i64 (cf.min), .int .i64 (cf.max), .int .i64 (cf.calmup), .int .i64 (cf.calmdown), .int .i64 (cf.podsup), .int .i64 (cf.pctup), .int .i64 (cf.podsdown), .int .i64 (cf.pctdown), .int .i64 (cf.period), .int .i64 (cf.far), .int .i64 (cf.strikes), .int .i64 (cf.probe), .int .i64 (cf.sectors), .int .u64 (cf.seed)] 26 (0, 0)) :: sobj sb cf.seed 0 0 (0 + 1) :: ((nws.map fun p => repO p cf.window 0 0 0) ++ ((ols.map fun p => repO p cf.window 0 0 0) ++ M))))) (fun v M' h => h.elim (fun h => And.intro h.2.1 h.2.2) (fun h => False.elim (h.1 (chk0 (show okK ⟨0, 0⟩ (sgen 1 0) 0 cf.grace = true from rfl) (decide_eq_true (same_yes (tagOf_bd (macKey cf.seed ((0 : Nat) : Int) 0) (putM ⟨1, ((0 : Nat) : Int), 0, 1, 0, va, 0⟩)).1 (tagOf_bd (macKey cf.seed ((0 : Nat) : Int) 0) (putM ⟨1, ((0 : Nat) : Int), 0, 1, 0, va, 0⟩)).2)) (may0 hwin) (stale0 hfr.1) (e := decide ((0 : Int) < cf.m)) (decide_eq_true (by omega)))))))) ?_
    rintro _ _ ⟨rfl, rfl⟩
    refine TL.val rfl rfl (Nat.le_of_ble_eq_true rfl) (Val.move rfl) ?_
    refine TL.val rfl rfl (Nat.le_of_ble_eq_true rfl) (Val.extract rfl rfl) ?_
    refine TL.val rfl rfl (Nat.le_of_ble_eq_true rfl) (Val.extract rfl rfl) ?_
    refine TL.does (some 14) rfl rfl rfl (Does.alloc ze61 rfl) ?_
    rintro _ _ ⟨bm1, rfl, rfl⟩
    first
      | refine TL.does none rfl rfl rfl (Does.store (i := 0) rfl rfl rfl sz61 rfl rfl (by first | exact Nat.le_of_ble_eq_true rfl | decide | omega) rfl rfl) ?_
      | refine TL.does none rfl rfl rfl (Does.store (i := 1) rfl rfl rfl sz61 rfl rfl (by first | exact Nat.le_of_ble_eq_true rfl | decide | omega) rfl rfl) ?_
      | refine TL.does none rfl rfl rfl (Does.store (i := 2) rfl rfl rfl sz61 rfl rfl (by first | exact Nat.le_of_ble_eq_true rfl | decide | omega) rfl rfl) ?_
      | refine TL.does none rfl rfl rfl (Does.store (i := 3) rfl rfl rfl sz61 rfl rfl (by first | exact Nat.le_of_ble_eq_true rfl | decide | omega) rfl rfl) ?_
      | refine TL.does none rfl rfl rfl (Does.store (i := 4) rfl rfl rfl sz61 rfl rfl (by first | exact Nat.le_of_ble_eq_true rfl | decide | omega) rfl rfl) ?_
      | refine TL.does none rfl rfl rfl (Does.store (i := 5) rfl rfl rfl sz61 rfl rfl (by first | exact Nat.le_of_ble_eq_true rfl | decide | omega) rfl rfl) ?_
      | refine TL.does none rfl rfl rfl (Does.store (i := 6) rfl rfl rfl sz61 rfl rfl (by first | exact Nat.le_of_ble_eq_true rfl | decide | omega) rfl rfl) ?_
      | refine TL.does none rfl rfl rfl (Does.store (i := 7) rfl rfl rfl sz61 rfl rfl (by first | exact Nat.le_of_ble_eq_true rfl | decide | omega) rfl rfl) ?_
      | refine TL.does none rfl rfl rfl (Does.store (i := 8) rfl rfl rfl sz61 rfl rfl (by first | exact Nat.le_of_ble_eq_true rfl | decide | omega) rfl rfl) ?_
      | refine TL.does none rfl rfl rfl (Does.store (i := 9) rfl rfl rfl sz61 rfl rfl (by first | exact Nat.le_of_ble_eq_true rfl | decide | omega) rfl rfl) ?_
      | refine TL.does none rfl rfl rfl (Does.store (i := 10) rfl rfl rfl sz61 rfl rfl (by first | exact Nat.le_of_ble_eq_true rfl | decide | omega) rfl rfl) ?_
      | refine TL.does none rfl rfl rfl (Does.store (i := 11) rfl rfl rfl sz61 rfl rfl (by first | exact Nat.le_of_ble_eq_true rfl | decide | omega) rfl rfl) ?_
    rintro _ _ ⟨rfl, rfl⟩
    refine TL.val rfl rfl (Nat.le_of_ble_eq_true rfl) (Val.assign rfl) ?_
    refine TL.nil ?_
    refine AtX.then ?_
    refine TC.env (E' := [(2, _), (3, _), (8, _), (10, _), (11, _), (12, _), (13, _), (14, _), (15, _)]) (Sub.cons rfl (Sub.cons rfl (Sub.cons rfl (Sub.cons rfl (Sub.cons rfl (Sub.cons rfl (Sub.cons rfl (Sub.cons rfl (Sub.cons rfl (Sub.nil _)))))))))) ?_
    refine TC.seq ?_
    refine TC.heap (M' := gateO gb cf rb (some ⟨nb, 0, none⟩) N cn (some ⟨ob, 0, none⟩) N co 0 :: ringO rb cf.seed lb N cf.grace (0 + 1) :: (lb, row 161 ((List.replicate N (⟨0, 0⟩ : On)).flatMap On.cs)) :: (nb, row 118 (nws.map pp ++ sn)) :: (ob, row 118 (ols.map pp ++ so)) :: ((bm1, .cells #[.int .i64 1, .int .i64 0, .int .i64 0, .int .i64 1, .int .i64 0, .int .i64 va, .int .i64 0] 61 (0, 0)) :: (bE, row 5 (bv (sealB (macKey cf.seed ((0 : Nat) : Int) 0) ⟨1, ((0 : Nat) : Int), 0, 1, 0, va, 0⟩) ++ spE)) :: (b2, .cells #[.int .i64 (cf.n), .int .i64 (cf.f), .int .i64 (cf.m), .int .i64 (cf.quorum), .int .i64 (cf.fresh), .int .i64 (cf.grace), .int .i64 (cf.window), .int .i64 (cf.t0), .int .i64 (cf.t1), .int .i64 (cf.t2), .int .i64 (cf.t3), .int .i64 (cf.tol), .int .i64 (cf.min), .int .i64 (cf.max), .int .i64 (cf.calmup), .int .i64 (cf.calmdown), .int .i64 (cf.podsup), .int .i64 (cf.pctup), .int .i64 (cf.podsdown), .int .i64 (cf.pctdown), .int .i64 (cf.period), .int .i64 (cf.far), .int .i64 (cf.strikes), .int .i64 (cf.probe), .int .i64 (cf.sectors), .int .u64 (cf.seed)] 26 (0, 0)) :: sobj sb cf.seed 0 0 (0 + 1) :: ((nws.map fun p => repO p cf.window 0 0 0) ++ ((ols.map fun p => repO p cf.window 0 0 0) ++ M)))) (fun w h => ro_mv (A := [_]) (L := [_, _, _, _, _]) w h) ?_
    refine TC.region ?_
    refine TL.val rfl rfl (Nat.le_of_ble_eq_true rfl) (Val.move rfl) ?_
    refine TL.val rfl rfl (Nat.le_of_ble_eq_true rfl) (Val.move rfl) ?_
    refine TL.does (some 57) rfl rfl rfl (Does.callF go32 rfl ((Check_nil gb rb lb nb cn ob co sn so cf N 1 0 (List.replicate N (⟨0, 0⟩ : On)) nws ols ((bm1, .cells #[.int .i64 1, .int .i64 0, .int .i64 0, .int .i64 1, .int .i64 0, .int .i64 va, .int .i64 0] 61 (0, 0)) :: (bE, row 5 (bv (sealB (macKey cf.seed ((0 : Nat) : Int) 0) ⟨1, ((0 : Nat) : Int), 0, 1, 0, va, 0⟩) ++ spE)) :: (b2, .cells #[.int .i64 (cf.n), .int .i64 (cf.f), .int .i64 (cf.m), .int .i64 (cf.quorum), .int .i64 (cf.fresh), .int .i64 (cf.grace), .int .i64 (cf.window), .int .i64 (cf.t0), .int .i64 (cf.t1), .int .i64 (cf.t2), .int .i64 (cf.t3), .int .i64 (cf.tol), .int .i64 (cf.min), .int .i64 (cf.max), .int .i64 (cf.calmup), .int .i64 (cf.calmdown), .int .i64 (cf.podsup), .int .i64 (cf.pctup), .int .i64 (cf.podsdown), .int .i64 (cf.pctdown), .int .i64 (cf.period), .int .i64 (cf.far), .int .i64 (cf.strikes), .int .i64 (cf.probe), .int .i64 (cf.sectors), .int .u64 (cf.seed)] 26 (0, 0)) :: sobj sb cf.seed 0 0 (0 + 1) :: ((nws.map fun p => repO p cf.window 0 0 0) ++ ((ols.map fun p => repO p cf.window 0 0 0) ++ M))) hN (by simp) hnl hol hgrc ⟨by decide, by decide⟩ 0 ⟨0, 0⟩ hx0 ⟨by decide, by decide⟩ ⟨by decide, by decide⟩ 1 0 1 0 va 0 ⟨by decide, by decide⟩ (by decide) 0 hcf p p2 hp hp2 4 0 0 0 ⟨by decide, by decide⟩ (rep_fst (L := [_, _, _, _]) hp) ⟨by decide, by decide⟩ hm ⟨by decide, by decide⟩ (tagB (tagOf (macKey cf.seed ((0 : Nat) : Int) 0) (putM ⟨1, ((0 : Nat) : Int), 0, 1, 0, va, 0⟩))) (some ⟨bE, 0, none⟩) cE (rd_all (i := 1) (sp := spE) rfl) (by omega) (by simp)).mono (R' := fun v M' => v = .tuple #[.agg #[.int .i64 1, .int .i64 0, .int .i64 0, .int .i64 1, .int .i64 0, .int .i64 va, .int .i64 0], .int .i64 0] ∧ M' = (gateO gb cf rb (some ⟨nb, 0, none⟩) N cn (some ⟨ob, 0, none⟩) N co 0 :: ringO rb cf.seed lb N cf.grace (1 + 1) :: (lb, row 161 ((List.replicate N (⟨0, 0⟩ : On)).flatMap On.cs)) :: (nb, row 118 (nws.map pp ++ sn)) :: (ob, row 118 (ols.map pp ++ so)) :: ((bm1, .cells #[.int .i64 1, .int .i64 0, .int .i64 0, .int .i64 1, .int .i64 0, .int .i64 va, .int .i64 0] 61 (0, 0)) :: (bE, row 5 (bv (sealB (macKey cf.seed ((0 : Nat) : Int) 0) ⟨1, ((0 : Nat) : Int), 0, 1, 0, va, 0⟩) ++ spE)) :: (b2, .cells #[.int .i64 (cf.n), .int .i64 (cf.f), .int .i64 (cf.m), .int .i64 (cf.quorum), .int .i64 (cf.fresh), .int .i64 (cf.grace), .int .i64 (cf.window), .int .i64 (cf.t0), .int .i64 (cf.t1), .int .i64 (cf.t2), .int .i64 (cf.t3), .int .i64 (cf.tol), .int .i64 (cf.min), .int .i64 (cf.max), .int .i64 (cf.calmup), .int .i64 (cf.calmdown), .int .i64 (cf.podsup), .int .i64 (cf.pctup), .int .i64 (cf.podsdown), .int .i64 (cf.pctdown), .int .i64 (cf.period), .int .i64 (cf.far), .int .i64 (cf.strikes), .int .i64 (cf.probe), .int .i64 (cf.sectors), .int .u64 (cf.seed)] 26 (0, 0)) :: sobj sb cf.seed 0 0 (0 + 1) :: ((nws.map fun p => repO p cf.window 0 0 0) ++ ((ols.map fun p => repO p cf.window 0 0 0) ++ M))))) (fun v M' h => h.elim (fun h => And.intro h.2.1 h.2.2) (fun h => False.elim (h.1 (chk0 (show okK ⟨0, 0⟩ (sgen 1 0) 0 cf.grace = true from rfl) (decide_eq_true (same_yes (tagOf_bd (macKey cf.seed ((0 : Nat) : Int) 0) (putM ⟨1, ((0 : Nat) : Int), 0, 1, 0, va, 0⟩)).1 (tagOf_bd (macKey cf.seed ((0 : Nat) : Int) 0) (putM ⟨1, ((0 : Nat) : Int), 0, 1, 0, va, 0⟩)).2)) (may0 hwin) (stale0 hfr.1) (e := decide ((0 : Int) < cf.m)) (decide_eq_true (by omega)))))))) ?_
    rintro _ _ ⟨rfl, rfl⟩
    refine TL.val rfl rfl (Nat.le_of_ble_eq_true rfl) (Val.move rfl) ?_
    refine TL.val rfl rfl (Nat.le_of_ble_eq_true rfl) (Val.extract rfl rfl) ?_
    refine TL.val rfl rfl (Nat.le_of_ble_eq_true rfl) (Val.extract rfl rfl) ?_
    refine TL.does (some 16) rfl rfl rfl (Does.alloc ze61 rfl) ?_
    rintro _ _ ⟨bm2, rfl, rfl⟩
    first
      | refine TL.does none rfl rfl rfl (Does.store (i := 0) rfl rfl rfl sz61 rfl rfl (by first | exact Nat.le_of_ble_eq_true rfl | decide | omega) rfl rfl) ?_
      | refine TL.does none rfl rfl rfl (Does.store (i := 1) rfl rfl rfl sz61 rfl rfl (by first | exact Nat.le_of_ble_eq_true rfl | decide | omega) rfl rfl) ?_
      | refine TL.does none rfl rfl rfl (Does.store (i := 2) rfl rfl rfl sz61 rfl rfl (by first | exact Nat.le_of_ble_eq_true rfl | decide | omega) rfl rfl) ?_
      | refine TL.does none rfl rfl rfl (Does.store (i := 3) rfl rfl rfl sz61 rfl rfl (by first | exact Nat.le_of_ble_eq_true rfl | decide | omega) rfl rfl) ?_
      | refine TL.does none rfl rfl rfl (Does.store (i := 4) rfl rfl rfl sz61 rfl rfl (by first | exact Nat.le_of_ble_eq_true rfl | decide | omega) rfl rfl) ?_
      | refine TL.does none rfl rfl rfl (Does.store (i := 5) rfl rfl rfl sz61 rfl rfl (by first | exact Nat.le_of_ble_eq_true rfl | decide | omega) rfl rfl) ?_
      | refine TL.does none rfl rfl rfl (Does.store (i := 6) rfl rfl rfl sz61 rfl rfl (by first | exact Nat.le_of_ble_eq_true rfl | decide | omega) rfl rfl) ?_
      | refine TL.does none rfl rfl rfl (Does.store (i := 7) rfl rfl rfl sz61 rfl rfl (by first | exact Nat.le_of_ble_eq_true rfl | decide | omega) rfl rfl) ?_
      | refine TL.does none rfl rfl rfl (Does.store (i := 8) rfl rfl rfl sz61 rfl rfl (by first | exact Nat.le_of_ble_eq_true rfl | decide | omega) rfl rfl) ?_
      | refine TL.does none rfl rfl rfl (Does.store (i := 9) rfl rfl rfl sz61 rfl rfl (by first | exact Nat.le_of_ble_eq_true rfl | decide | omega) rfl rfl) ?_
      | refine TL.does none rfl rfl rfl (Does.store (i := 10) rfl rfl rfl sz61 rfl rfl (by first | exact Nat.le_of_ble_eq_true rfl | decide | omega) rfl rfl) ?_
      | refine TL.does none rfl rfl rfl (Does.store (i := 11) rfl rfl rfl sz61 rfl rfl (by first | exact Nat.le_of_ble_eq_true rfl | decide | omega) rfl rfl) ?_
    rintro _ _ ⟨rfl, rfl⟩
    refine TL.val rfl rfl (Nat.le_of_ble_eq_true rfl) (Val.assign rfl) ?_
    refine TL.nil ?_
    refine AtX.then ?_
    refine TC.env (E' := [(2, _), (3, _), (8, _), (10, _), (11, _), (12, _), (13, _), (14, _), (15, _), (16, _), (17, _)]) (Sub.cons rfl (Sub.cons rfl (Sub.cons rfl (Sub.cons rfl (Sub.cons rfl (Sub.cons rfl (Sub.cons rfl (Sub.cons rfl (Sub.cons rfl (Sub.cons rfl (Sub.cons rfl (Sub.nil _)))))))))))) ?_
    refine TC.seq ?_
    refine TC.seq ?_
    refine TC.heap (M' := gateO gb cf rb (some ⟨nb, 0, none⟩) N cn (some ⟨ob, 0, none⟩) N co 0 :: ringO rb cf.seed lb N cf.grace (1 + 1) :: (lb, row 161 ((List.replicate N (⟨0, 0⟩ : On)).flatMap On.cs)) :: (nb, row 118 (nws.map pp ++ sn)) :: (ob, row 118 (ols.map pp ++ so)) :: ((bm2, .cells #[.int .i64 1, .int .i64 0, .int .i64 0, .int .i64 1, .int .i64 0, .int .i64 va, .int .i64 0] 61 (0, 0)) :: (bm1, .cells #[.int .i64 1, .int .i64 0, .int .i64 0, .int .i64 1, .int .i64 0, .int .i64 va, .int .i64 0] 61 (0, 0)) :: (bE, row 5 (bv (sealB (macKey cf.seed ((0 : Nat) : Int) 0) ⟨1, ((0 : Nat) : Int), 0, 1, 0, va, 0⟩) ++ spE)) :: (b2, .cells #[.int .i64 (cf.n), .int .i64 (cf.f), .int .i64 (cf.m), .int .i64 (cf.quorum), .int .i64 (cf.fresh), .int .i64 (cf.grace), .int .i64 (cf.window), .int .i64 (cf.t0), .int .i64 (cf.t1), .int .i64 (cf.t2), .int .i64 (cf.t3), .int .i64 (cf.tol), .int .i64 (cf.min), .int .i64 (cf.max), .int .i64 (cf.calmup), .int .i64 (cf.calmdown), .int .i64 (cf.podsup), .int .i64 (cf.pctup), .int .i64 (cf.podsdown), .int .i64 (cf.pctdown), .int .i64 (cf.period), .int .i64 (cf.far), .int .i64 (cf.strikes), .int .i64 (cf.probe), .int .i64 (cf.sectors), .int .u64 (cf.seed)] 26 (0, 0)) :: sobj sb cf.seed 0 0 (0 + 1) :: ((nws.map fun p => repO p cf.window 0 0 0) ++ ((ols.map fun p => repO p cf.window 0 0 0) ++ M)))) (fun w h => ro_mv (A := [_]) (L := [_, _, _, _, _]) w h) ?_
    refine TC.region ?_
    refine TL.val rfl rfl (Nat.le_of_ble_eq_true rfl) (Val.move rfl) ?_
    refine TL.val rfl rfl (Nat.le_of_ble_eq_true rfl) (Val.neqI rfl rfl) ?_
    refine TL.val rfl rfl (Nat.le_of_ble_eq_true rfl) (Val.move rfl) ?_
    refine TL.valYes rfl rfl (Nat.le_of_ble_eq_true rfl) rfl (Nat.le_of_ble_eq_true rfl) rfl (Val.move rfl) ?_
    refine TL.valYes rfl rfl (Nat.le_of_ble_eq_true rfl) rfl (Nat.le_of_ble_eq_true rfl) rfl (Val.neqI rfl rfl) ?_
    first
      | refine TL.val rfl rfl (Nat.le_of_ble_eq_true rfl) (Val.pickAnd rfl rfl rfl) ?_
      | refine TL.val rfl rfl (Nat.le_of_ble_eq_true rfl) (Val.pickOr rfl rfl rfl) ?_
      | refine TL.val rfl rfl (Nat.le_of_ble_eq_true rfl) (Val.pick rfl rfl rfl) ?_
    refine TL.val rfl rfl (Nat.le_of_ble_eq_true rfl) (Val.move rfl) ?_
    refine TL.valYes rfl rfl (Nat.le_of_ble_eq_true rfl) rfl (Nat.le_of_ble_eq_true rfl) rfl (Val.move rfl) ?_
    refine TL.valYes rfl rfl (Nat.le_of_ble_eq_true rfl) rfl (Nat.le_of_ble_eq_true rfl) rfl (Val.neqI rfl rfl) ?_
    first
      | refine TL.val rfl rfl (Nat.le_of_ble_eq_true rfl) (Val.pickAnd rfl rfl rfl) ?_
      | refine TL.val rfl rfl (Nat.le_of_ble_eq_true rfl) (Val.pickOr rfl rfl rfl) ?_
      | refine TL.val rfl rfl (Nat.le_of_ble_eq_true rfl) (Val.pick rfl rfl rfl) ?_
    refine TL.val rfl rfl (Nat.le_of_ble_eq_true rfl) (Val.move rfl) ?_
    refine TL.valYes rfl rfl (Nat.le_of_ble_eq_true rfl) rfl (Nat.le_of_ble_eq_true rfl) rfl (Val.loadAgg 6 rfl ag61 sz61 rfl rfl rfl) ?_
    refine TL.valYes rfl rfl (Nat.le_of_ble_eq_true rfl) rfl (Nat.le_of_ble_eq_true rfl) rfl (Val.loadAgg 5 rfl ag61 sz61 rfl rfl rfl) ?_
    refine TL.valYes rfl rfl (Nat.le_of_ble_eq_true rfl) rfl (Nat.le_of_ble_eq_true rfl) rfl (Val.same (v' := .bool false) (Val.neqMs (a := ⟨1, ((0 : Nat) : Int), 0, 1, 0, va, 0⟩) (b := ⟨1, ((0 : Nat) : Int), 0, 1, 0, va, 0⟩) rfl rfl) (congrArg Value.bool (by rw [eqbM_self]; rfl))) ?_
    first
      | refine TL.val rfl rfl (Nat.le_of_ble_eq_true rfl) (Val.pickAnd rfl rfl rfl) ?_
      | refine TL.val rfl rfl (Nat.le_of_ble_eq_true rfl) (Val.pickOr rfl rfl rfl) ?_
      | refine TL.val rfl rfl (Nat.le_of_ble_eq_true rfl) (Val.pick rfl rfl rfl) ?_
    refine TL.val rfl rfl (Nat.le_of_ble_eq_true rfl) (Val.move rfl) ?_
    refine TL.valYes rfl rfl (Nat.le_of_ble_eq_true rfl) rfl (Nat.le_of_ble_eq_true rfl) rfl (Val.move rfl) ?_
    refine TL.valYes rfl rfl (Nat.le_of_ble_eq_true rfl) rfl (Nat.le_of_ble_eq_true rfl) rfl (Val.loadAgg 6 rfl ag61 sz61 rfl rfl rfl) ?_
    refine TL.doesYes (some 78) rfl rfl rfl (Nat.le_of_ble_eq_true rfl) rfl rfl (Does.callF go33 rfl (Take_s gb rb lb nb cn ob co sn so cf N 2 0 (List.replicate N (⟨0, 0⟩ : On)) nws ols ((bm2, .cells #[.int .i64 1, .int .i64 0, .int .i64 0, .int .i64 1, .int .i64 0, .int .i64 va, .int .i64 0] 61 (0, 0)) :: (bm1, .cells #[.int .i64 1, .int .i64 0, .int .i64 0, .int .i64 1, .int .i64 0, .int .i64 va, .int .i64 0] 61 (0, 0)) :: (bE, row 5 (bv (sealB (macKey cf.seed ((0 : Nat) : Int) 0) ⟨1, ((0 : Nat) : Int), 0, 1, 0, va, 0⟩) ++ spE)) :: (b2, .cells #[.int .i64 (cf.n), .int .i64 (cf.f), .int .i64 (cf.m), .int .i64 (cf.quorum), .int .i64 (cf.fresh), .int .i64 (cf.grace), .int .i64 (cf.window), .int .i64 (cf.t0), .int .i64 (cf.t1), .int .i64 (cf.t2), .int .i64 (cf.t3), .int .i64 (cf.tol), .int .i64 (cf.min), .int .i64 (cf.max), .int .i64 (cf.calmup), .int .i64 (cf.calmdown), .int .i64 (cf.podsup), .int .i64 (cf.pctup), .int .i64 (cf.podsdown), .int .i64 (cf.pctdown), .int .i64 (cf.period), .int .i64 (cf.far), .int .i64 (cf.strikes), .int .i64 (cf.probe), .int .i64 (cf.sectors), .int .u64 (cf.seed)] 26 (0, 0)) :: sobj sb cf.seed 0 0 (0 + 1) :: ((nws.map fun p => repO p cf.window 0 0 0) ++ ((ols.map fun p => repO p cf.window 0 0 0) ++ M))) hN (by simp) hnl hol hgrc ⟨by decide, by decide⟩ 0 ⟨0, 0⟩ hx0 ⟨by decide, by decide⟩ ⟨by decide, by decide⟩ 1 0 1 0 va 0 ⟨by decide, by decide⟩ (by decide) 0 hcf p p2 hp hp2 5 0 0 0 ⟨by decide, by decide⟩ (rep_fst (L := [_, _, _, _, _]) hp) ⟨by decide, by decide⟩ hm rfl (by decide) rfl (may0 hwin))) ?_
    rintro _ _ ⟨rfl, rfl⟩
    refine TL.heap (M' := gateO gb cf rb (some ⟨nb, 0, none⟩) N cn (some ⟨ob, 0, none⟩) N co 0 :: ringO rb cf.seed lb N cf.grace 3 :: (lb, row 161 ((List.replicate N (⟨0, 0⟩ : On)).flatMap On.cs)) :: (nb, row 118 (nws.map pp ++ sn)) :: (ob, row 118 (ols.map pp ++ so)) :: (((bm2, .cells #[.int .i64 1, .int .i64 0, .int .i64 0, .int .i64 1, .int .i64 0, .int .i64 va, .int .i64 0] 61 (0, 0)) :: (bm1, .cells #[.int .i64 1, .int .i64 0, .int .i64 0, .int .i64 1, .int .i64 0, .int .i64 va, .int .i64 0] 61 (0, 0)) :: (bE, row 5 (bv (sealB (macKey cf.seed ((0 : Nat) : Int) 0) ⟨1, ((0 : Nat) : Int), 0, 1, 0, va, 0⟩) ++ spE)) :: (b2, .cells #[.int .i64 (cf.n), .int .i64 (cf.f), .int .i64 (cf.m), .int .i64 (cf.quorum), .int .i64 (cf.fresh), .int .i64 (cf.grace), .int .i64 (cf.window), .int .i64 (cf.t0), .int .i64 (cf.t1), .int .i64 (cf.t2), .int .i64 (cf.t3), .int .i64 (cf.tol), .int .i64 (cf.min), .int .i64 (cf.max), .int .i64 (cf.calmup), .int .i64 (cf.calmdown), .int .i64 (cf.podsup), .int .i64 (cf.pctup), .int .i64 (cf.podsdown), .int .i64 (cf.pctdown), .int .i64 (cf.period), .int .i64 (cf.far), .int .i64 (cf.strikes), .int .i64 (cf.probe), .int .i64 (cf.sectors), .int .u64 (cf.seed)] 26 (0, 0)) :: sobj sb cf.seed 0 0 1 :: ((nws.map fun p => repO p cf.window 0 0 0) ++ (ols.map fun p => repO p cf.window 0 0 0)).set 0 (repO p cf.window 1 (nextB cf.window 0) 0)) ++ M)) (fun w h => by rw [show (((bm2, .cells #[.int .i64 1, .int .i64 0, .int .i64 0, .int .i64 1, .int .i64 0, .int .i64 va, .int .i64 0] 61 (0, 0)) :: (bm1, .cells #[.int .i64 1, .int .i64 0, .int .i64 0, .int .i64 1, .int .i64 0, .int .i64 va, .int .i64 0] 61 (0, 0)) :: (bE, row 5 (bv (sealB (macKey cf.seed ((0 : Nat) : Int) 0) ⟨1, ((0 : Nat) : Int), 0, 1, 0, va, 0⟩) ++ spE)) :: (b2, .cells #[.int .i64 (cf.n), .int .i64 (cf.f), .int .i64 (cf.m), .int .i64 (cf.quorum), .int .i64 (cf.fresh), .int .i64 (cf.grace), .int .i64 (cf.window), .int .i64 (cf.t0), .int .i64 (cf.t1), .int .i64 (cf.t2), .int .i64 (cf.t3), .int .i64 (cf.tol), .int .i64 (cf.min), .int .i64 (cf.max), .int .i64 (cf.calmup), .int .i64 (cf.calmdown), .int .i64 (cf.podsup), .int .i64 (cf.pctup), .int .i64 (cf.podsdown), .int .i64 (cf.pctdown), .int .i64 (cf.period), .int .i64 (cf.far), .int .i64 (cf.strikes), .int .i64 (cf.probe), .int .i64 (cf.sectors), .int .u64 (cf.seed)] 26 (0, 0)) :: sobj sb cf.seed 0 0 1 :: ((nws.map fun p => repO p cf.window 0 0 0) ++ (ols.map fun p => repO p cf.window 0 0 0)).set 0 (repO p cf.window 1 (nextB cf.window 0) 0)) ++ M) = (bm2, .cells #[.int .i64 1, .int .i64 0, .int .i64 0, .int .i64 1, .int .i64 0, .int .i64 va, .int .i64 0] 61 (0, 0)) :: (bm1, .cells #[.int .i64 1, .int .i64 0, .int .i64 0, .int .i64 1, .int .i64 0, .int .i64 va, .int .i64 0] 61 (0, 0)) :: (bE, row 5 (bv (sealB (macKey cf.seed ((0 : Nat) : Int) 0) ⟨1, ((0 : Nat) : Int), 0, 1, 0, va, 0⟩) ++ spE)) :: (b2, .cells #[.int .i64 (cf.n), .int .i64 (cf.f), .int .i64 (cf.m), .int .i64 (cf.quorum), .int .i64 (cf.fresh), .int .i64 (cf.grace), .int .i64 (cf.window), .int .i64 (cf.t0), .int .i64 (cf.t1), .int .i64 (cf.t2), .int .i64 (cf.t3), .int .i64 (cf.tol), .int .i64 (cf.min), .int .i64 (cf.max), .int .i64 (cf.calmup), .int .i64 (cf.calmdown), .int .i64 (cf.podsup), .int .i64 (cf.pctup), .int .i64 (cf.podsdown), .int .i64 (cf.pctdown), .int .i64 (cf.period), .int .i64 (cf.far), .int .i64 (cf.strikes), .int .i64 (cf.probe), .int .i64 (cf.sectors), .int .u64 (cf.seed)] 26 (0, 0)) :: sobj sb cf.seed 0 0 1 :: (((nws.map fun p => repO p cf.window 0 0 0) ++ ((ols.map fun p => repO p cf.window 0 0 0) ++ M))).set 0 (repO p cf.window 1 (nextB cf.window 0) 0) from set_qq hp]; exact h) ?_
    have hr0 : (((bm2, .cells #[.int .i64 1, .int .i64 0, .int .i64 0, .int .i64 1, .int .i64 0, .int .i64 va, .int .i64 0] 61 (0, 0)) :: (bm1, .cells #[.int .i64 1, .int .i64 0, .int .i64 0, .int .i64 1, .int .i64 0, .int .i64 va, .int .i64 0] 61 (0, 0)) :: (bE, row 5 (bv (sealB (macKey cf.seed ((0 : Nat) : Int) 0) ⟨1, ((0 : Nat) : Int), 0, 1, 0, va, 0⟩) ++ spE)) :: (b2, .cells #[.int .i64 (cf.n), .int .i64 (cf.f), .int .i64 (cf.m), .int .i64 (cf.quorum), .int .i64 (cf.fresh), .int .i64 (cf.grace), .int .i64 (cf.window), .int .i64 (cf.t0), .int .i64 (cf.t1), .int .i64 (cf.t2), .int .i64 (cf.t3), .int .i64 (cf.tol), .int .i64 (cf.min), .int .i64 (cf.max), .int .i64 (cf.calmup), .int .i64 (cf.calmdown), .int .i64 (cf.podsup), .int .i64 (cf.pctup), .int .i64 (cf.podsdown), .int .i64 (cf.pctdown), .int .i64 (cf.period), .int .i64 (cf.far), .int .i64 (cf.strikes), .int .i64 (cf.probe), .int .i64 (cf.sectors), .int .u64 (cf.seed)] 26 (0, 0)) :: sobj sb cf.seed 0 0 1 :: ((nws.map fun p => repO p cf.window 0 0 0) ++ (ols.map fun p => repO p cf.window 0 0 0)).set 0 (repO p cf.window 1 (nextB cf.window 0) 0)) ++ M)[5]? = some (repO p cf.window 1 (nextB cf.window 0) 0) := get_qq hp
    refine TL.valYes rfl rfl (Nat.le_of_ble_eq_true rfl) rfl (Nat.le_of_ble_eq_true rfl) rfl (Val.neqI rfl rfl) ?_
    first
      | refine TL.val rfl rfl (Nat.le_of_ble_eq_true rfl) (Val.pickAnd rfl rfl rfl) ?_
      | refine TL.val rfl rfl (Nat.le_of_ble_eq_true rfl) (Val.pickOr rfl rfl rfl) ?_
      | refine TL.val rfl rfl (Nat.le_of_ble_eq_true rfl) (Val.pick rfl rfl rfl) ?_
    refine TL.val rfl rfl (Nat.le_of_ble_eq_true rfl) (Val.move rfl) ?_
    refine TL.valYes rfl rfl (Nat.le_of_ble_eq_true rfl) rfl (Nat.le_of_ble_eq_true rfl) rfl (Val.move rfl) ?_
    refine TL.valYes rfl rfl (Nat.le_of_ble_eq_true rfl) rfl (Nat.le_of_ble_eq_true rfl) rfl (Val.loadAgg 6 rfl ag61 sz61 rfl rfl rfl) ?_
    refine TL.doesYes (some 84) rfl rfl rfl (Nat.le_of_ble_eq_true rfl) rfl rfl (Does.callF go33 rfl (Take_no gb rb lb nb cn ob co sn so cf N 3 0 (List.replicate N (⟨0, 0⟩ : On)) nws ols (((bm2, .cells #[.int .i64 1, .int .i64 0, .int .i64 0, .int .i64 1, .int .i64 0, .int .i64 va, .int .i64 0] 61 (0, 0)) :: (bm1, .cells #[.int .i64 1, .int .i64 0, .int .i64 0, .int .i64 1, .int .i64 0, .int .i64 va, .int .i64 0] 61 (0, 0)) :: (bE, row 5 (bv (sealB (macKey cf.seed ((0 : Nat) : Int) 0) ⟨1, ((0 : Nat) : Int), 0, 1, 0, va, 0⟩) ++ spE)) :: (b2, .cells #[.int .i64 (cf.n), .int .i64 (cf.f), .int .i64 (cf.m), .int .i64 (cf.quorum), .int .i64 (cf.fresh), .int .i64 (cf.grace), .int .i64 (cf.window), .int .i64 (cf.t0), .int .i64 (cf.t1), .int .i64 (cf.t2), .int .i64 (cf.t3), .int .i64 (cf.tol), .int .i64 (cf.min), .int .i64 (cf.max), .int .i64 (cf.calmup), .int .i64 (cf.calmdown), .int .i64 (cf.podsup), .int .i64 (cf.pctup), .int .i64 (cf.podsdown), .int .i64 (cf.pctdown), .int .i64 (cf.period), .int .i64 (cf.far), .int .i64 (cf.strikes), .int .i64 (cf.probe), .int .i64 (cf.sectors), .int .u64 (cf.seed)] 26 (0, 0)) :: sobj sb cf.seed 0 0 1 :: ((nws.map fun p => repO p cf.window 0 0 0) ++ (ols.map fun p => repO p cf.window 0 0 0)).set 0 (repO p cf.window 1 (nextB cf.window 0) 0)) ++ M) hN (by simp) hnl hol hgrc ⟨by decide, by decide⟩ 0 ⟨0, 0⟩ hx0 ⟨by decide, by decide⟩ ⟨by decide, by decide⟩ 1 0 1 0 va 0 ⟨by decide, by decide⟩ (by decide) 0 hcf p p2 hp hp2 5 1 (nextB cf.window 0) 0 ⟨by decide, by decide⟩ hr0 ⟨by decide, by decide⟩ hm rfl (mayNo1 hwin))) ?_
    rintro _ _ ⟨rfl, rfl⟩
    refine TL.valYes rfl rfl (Nat.le_of_ble_eq_true rfl) rfl (Nat.le_of_ble_eq_true rfl) rfl (Val.neqI rfl rfl) ?_
    first
      | refine TL.val rfl rfl (Nat.le_of_ble_eq_true rfl) (Val.pickAnd rfl rfl rfl) ?_
      | refine TL.val rfl rfl (Nat.le_of_ble_eq_true rfl) (Val.pickOr rfl rfl rfl) ?_
      | refine TL.val rfl rfl (Nat.le_of_ble_eq_true rfl) (Val.pick rfl rfl rfl) ?_
    refine TL.nil ?_
    refine AtX.then ?_
    refine TC.env (E' := [(2, _), (3, _), (8, _), (10, _), (11, _), (12, _), (86, _)]) (Sub.cons rfl (Sub.cons rfl (Sub.cons rfl (Sub.cons rfl (Sub.cons rfl (Sub.cons rfl (Sub.cons rfl (Sub.nil _)))))))) ?_
    first | refine TC.condP rfl (fun c2 => ?_) (fun c2 => ?_) | refine TC.condN rfl (fun c2 => ?_) (fun c2 => ?_) | refine TC.condB rfl (fun c2 => ?_) (fun c2 => ?_) | refine TC.cond rfl (fun c2 => ?_) (fun c2 => ?_)
    · skip
      (exfalso; simp at c2)
    · skip
      refine TC.env (E' := [(2, _), (3, _), (8, _), (10, _), (11, _), (12, _)]) (Sub.cons rfl (Sub.cons rfl (Sub.cons rfl (Sub.cons rfl (Sub.cons rfl (Sub.cons rfl (Sub.nil _))))))) ?_
      refine TC.skip ?_
      refine AtX.then ?_
      refine TC.env (E' := [(2, _), (3, _), (8, _), (10, _), (11, _), (12, _)]) (Sub.cons rfl (Sub.cons rfl (Sub.cons rfl (Sub.cons rfl (Sub.cons rfl (Sub.cons rfl (Sub.nil _))))))) ?_
      refine TC.seq ?_
      obtain ⟨now, hnow, g3_, l3_⟩ := rem_ex (m := IntKind.u64.wrap later) (d := 5) (by rw [w_u64m]; omega) (by decide)
      obtain ⟨r, hr, g2_, l2_⟩ := rem_ex (m := IntKind.u64.wrap turns) (d := 4) (by rw [w_u64m]; omega) (by decide)
      refine TC.region ?_
      refine TL.val rfl rfl (Nat.le_of_ble_eq_true rfl) (Val.move rfl) ?_
      refine TL.val rfl rfl (Nat.le_of_ble_eq_true rfl) (Val.convI rfl iu3 in32 rfl) ?_
      refine TL.val rfl rfl (Nat.le_of_ble_eq_true rfl) (Val.rem rfl rfl (by decide) (r := now) hnow) ?_
      refine TL.val rfl rfl (Nat.le_of_ble_eq_true rfl) (Val.convI rfl iu32 in2 (r := now) (w_i64 (by omega) (by omega))) ?_
      refine TL.val rfl rfl (Nat.le_of_ble_eq_true rfl) (Val.assign rfl) ?_
      refine TL.nil ?_
      refine AtX.then ?_
      refine TC.env (E' := [(3, _), (8, _), (10, _), (11, _), (12, _), (18, _)]) (Sub.cons rfl (Sub.cons rfl (Sub.cons rfl (Sub.cons rfl (Sub.cons rfl (Sub.cons rfl (Sub.nil _))))))) ?_
      refine TC.seq ?_
      refine TC.seq ?_
      refine TC.region ?_
      refine TL.val rfl rfl (Nat.le_of_ble_eq_true rfl) (Val.assign rfl) ?_
      refine TL.nil ?_
      refine AtX.then ?_
      refine TC.env (E' := [(3, _), (8, _), (10, _), (11, _), (12, _), (18, _), (19, _)]) (Sub.cons rfl (Sub.cons rfl (Sub.cons rfl (Sub.cons rfl (Sub.cons rfl (Sub.cons rfl (Sub.cons rfl (Sub.nil _)))))))) ?_
      refine TC.block ?_
      refine TC.loop (ι := OS) (fun o => [(3, .int .i64 turns), (10, .pointer (some ⟨gb, 0, none⟩)), (11, .pointer (some ⟨sb, 0, none⟩)), (12, .slice (some ⟨bE, 0, none⟩) 48 cE), (18, .int .i64 now), (19, .int .u64 (o.i : Nat))]) (fun o => gateO gb cf rb (some ⟨nb, 0, none⟩) N cn (some ⟨ob, 0, none⟩) N co 0 :: ringO rb cf.seed lb N cf.grace o.ak :: (lb, row 161 (o.on.flatMap On.cs)) :: (nb, row 118 (o.nw.map pp ++ sn)) :: (ob, row 118 (o.ol.map pp ++ so)) :: (o.L ++ M)) (OSI cf.window now cf.seed N r sb (bE, row 5 (bv (sealB (macKey cf.seed ((0 : Nat) : Int) 0) ⟨1, ((0 : Nat) : Int), 0, 1, 0, va, 0⟩) ++ spE))) (fun o => (r - o.i).toNat) ⟨0, ((bm2, .cells #[.int .i64 1, .int .i64 0, .int .i64 0, .int .i64 1, .int .i64 0, .int .i64 va, .int .i64 0] 61 (0, 0)) :: (bm1, .cells #[.int .i64 1, .int .i64 0, .int .i64 0, .int .i64 1, .int .i64 0, .int .i64 va, .int .i64 0] 61 (0, 0)) :: (bE, row 5 (bv (sealB (macKey cf.seed ((0 : Nat) : Int) 0) ⟨1, ((0 : Nat) : Int), 0, 1, 0, va, 0⟩) ++ spE)) :: (b2, .cells #[.int .i64 (cf.n), .int .i64 (cf.f), .int .i64 (cf.m), .int .i64 (cf.quorum), .int .i64 (cf.fresh), .int .i64 (cf.grace), .int .i64 (cf.window), .int .i64 (cf.t0), .int .i64 (cf.t1), .int .i64 (cf.t2), .int .i64 (cf.t3), .int .i64 (cf.tol), .int .i64 (cf.min), .int .i64 (cf.max), .int .i64 (cf.calmup), .int .i64 (cf.calmdown), .int .i64 (cf.podsup), .int .i64 (cf.pctup), .int .i64 (cf.podsdown), .int .i64 (cf.pctdown), .int .i64 (cf.period), .int .i64 (cf.far), .int .i64 (cf.strikes), .int .i64 (cf.probe), .int .i64 (cf.sectors), .int .u64 (cf.seed)] 26 (0, 0)) :: sobj sb cf.seed 0 0 1 :: ((nws.map fun p => repO p cf.window 0 0 0) ++ (ols.map fun p => repO p cf.window 0 0 0)).set 0 (repO p cf.window 1 (nextB cf.window 0) 0)), (List.replicate N (⟨0, 0⟩ : On)), nws, ols, ⟨0, 0⟩, 4, p, p2, 5, 5 + N, 4, 2, 1, nextB cf.window 0, 0, 0⟩ ?_ (Sub.cons rfl (Sub.cons rfl (Sub.cons rfl (Sub.cons rfl (Sub.cons rfl (Sub.cons rfl (Sub.nil _))))))) (fun _ h => h) ?_
      · exact ⟨g2_, by simp, hnl, hol, hx0, rfl, .inl ⟨rfl, rfl⟩, (by show (0 : Int) ≤ 4 ∧ (4 : Int) ≤ 4 + 2 * ((0 : Nat) : Int); decide), hp, hp2, get_qq0 hp, get_qq2 hnl hp2, rfl, rfl, (by show (0 : Int) ≤ 1 ∧ (1 : Int) ≤ 1; decide), (by show (0 : Int) ≤ 0 ∧ (0 : Int) ≤ 2; decide), fun _ => ⟨rfl, rfl⟩, (fun h => by cases h), rfl⟩
      rintro ⟨i, L, on, nw, ol, x, ak, p, p2, ip, ip2, js, jb, t1, b1, t2, b2⟩ ⟨hir, hon, hnw, hol2, hx, hxg, hxs2, hasb, hp, hp2, hrep, hrep2, hsob, hjb, ht1, ht2, h0, h1, has_⟩
      dsimp only at hir hon hnw hol2 hx hxg hxs2 hasb hp hp2 hrep hrep2 hsob hjb ht1 ht2 h0 h1 has_ ⊢
      refine TC.seq ?_
      refine TC.seq ?_
      refine TC.region ?_
      refine TL.val rfl rfl (Nat.le_of_ble_eq_true rfl) (Val.move rfl) ?_
      refine TL.val rfl rfl (Nat.le_of_ble_eq_true rfl) (Val.move rfl) ?_
      refine TL.val rfl rfl (Nat.le_of_ble_eq_true rfl) (Val.convI rfl iu3 in32 rfl) ?_
      refine TL.val rfl rfl (Nat.le_of_ble_eq_true rfl) (Val.rem rfl rfl (by decide) (r := r) hr) ?_
      refine TL.val rfl rfl (Nat.le_of_ble_eq_true rfl) (Val.lss rfl rfl) ?_
      refine TL.nil ?_
      refine AtX.then ?_
      first | refine TC.condP rfl (fun c3 => ?_) (fun c3 => ?_) | refine TC.condN rfl (fun c3 => ?_) (fun c3 => ?_) | refine TC.condB rfl (fun c3 => ?_) (fun c3 => ?_) | refine TC.cond rfl (fun c3 => ?_) (fun c3 => ?_)
      · skip
        refine TC.skip ?_
        refine AtX.then ?_
        refine TC.seq ?_
        refine TC.block ?_
        refine TC.seq ?_
        have hm2 : mayM ⟨2, ((0 : Nat) : Int), (i : Nat) + 1, t1 + 1, now, 0, 0⟩ = true := mayM_iff.2 (by simp; omega)
        refine TC.region ?_
        refine TL.val rfl rfl (Nat.le_of_ble_eq_true rfl) (Val.move rfl) ?_
        refine TL.val rfl rfl (Nat.le_of_ble_eq_true rfl) (Val.move rfl) ?_
        refine TL.does (some 101) rfl rfl rfl (Does.callF go34 rfl (sRotate_fn sb (js + 5) cf.seed 0 (i : Nat) t1 now _ (get_l hsob) hm2)) ?_
        rintro _ _ ⟨bR, cR, spR, rfl, hcR, rfl⟩
        refine TL.val rfl rfl (Nat.le_of_ble_eq_true rfl) (Val.move rfl) ?_
        refine TL.val rfl rfl (Nat.le_of_ble_eq_true rfl) (Val.extract rfl rfl) ?_
        refine TL.val rfl rfl (Nat.le_of_ble_eq_true rfl) (Val.extract rfl rfl) ?_
        refine TL.val rfl rfl (Nat.le_of_ble_eq_true rfl) (Val.assign rfl) ?_
        refine TL.val rfl rfl (Nat.le_of_ble_eq_true rfl) (Val.assign rfl) ?_
        refine TL.nil ?_
        refine AtX.then ?_
        refine TC.env (E' := [(3, _), (10, _), (11, _), (12, _), (18, _), (19, _), (20, _), (91, _), (92, _), (93, _), (94, _), (95, _), (98, _), (99, _), (100, _), (101, _), (102, _), (103, _)]) (Sub.cons rfl (Sub.cons rfl (Sub.cons rfl (Sub.cons rfl (Sub.cons rfl (Sub.cons rfl (Sub.cons rfl (Sub.cons rfl (Sub.cons rfl (Sub.cons rfl (Sub.cons rfl (Sub.cons rfl (Sub.cons rfl (Sub.cons rfl (Sub.cons rfl (Sub.cons rfl (Sub.cons rfl (Sub.cons rfl (Sub.nil _))))))))))))))))))) ?_
        refine TC.seq ?_
        refine TC.heap (M' := gateO gb cf rb (some ⟨nb, 0, none⟩) N cn (some ⟨ob, 0, none⟩) N co 0 :: ringO rb cf.seed lb N cf.grace ak :: (lb, row 161 (on.flatMap On.cs)) :: (nb, row 118 (nw.map pp ++ sn)) :: (ob, row 118 (ol.map pp ++ so)) :: (((bR, row 5 (bv (sealB (macKey cf.seed ((0 : Nat) : Int) (i : Nat)) ⟨2, ((0 : Nat) : Int), (i : Nat) + 1, t1 + 1, now, 0, 0⟩) ++ spR)) :: L.set js (sobj sb cf.seed 0 ((i : Nat) + 1) 0)) ++ M)) (fun w h => by rw [show (((bR, row 5 (bv (sealB (macKey cf.seed ((0 : Nat) : Int) (i : Nat)) ⟨2, ((0 : Nat) : Int), (i : Nat) + 1, t1 + 1, now, 0, 0⟩) ++ spR)) :: L.set js (sobj sb cf.seed 0 ((i : Nat) + 1) 0)) ++ M) = (bR, row 5 (bv (sealB (macKey cf.seed ((0 : Nat) : Int) (i : Nat)) ⟨2, ((0 : Nat) : Int), (i : Nat) + 1, t1 + 1, now, 0, 0⟩) ++ spR)) :: (L ++ M).set js (sobj sb cf.seed 0 ((i : Nat) + 1) 0) from by rw [set_l hsob]; rfl]; exact ro_mv (A := [_]) (L := [_, _, _, _, _]) w h) ?_
        have hrep1 : ((bR, row 5 (bv (sealB (macKey cf.seed ((0 : Nat) : Int) (i : Nat)) ⟨2, ((0 : Nat) : Int), (i : Nat) + 1, t1 + 1, now, 0, 0⟩) ++ spR)) :: L.set js (sobj sb cf.seed 0 ((i : Nat) + 1) 0))[ip + 1]? = some (repO p cf.window t1 b1 0) := get_set_ty hrep hsob (by show (154 : Nat) ≠ 121; decide)
        have hjs : ((bR, row 5 (bv (sealB (macKey cf.seed ((0 : Nat) : Int) (i : Nat)) ⟨2, ((0 : Nat) : Int), (i : Nat) + 1, t1 + 1, now, 0, 0⟩) ++ spR)) :: L.set js (sobj sb cf.seed 0 ((i : Nat) + 1) 0))[js + 1]? = some (sobj sb cf.seed 0 ((i : Nat) + 1) 0) := get_set_eq hsob
        have hjb3 : ((bR, row 5 (bv (sealB (macKey cf.seed ((0 : Nat) : Int) (i : Nat)) ⟨2, ((0 : Nat) : Int), (i : Nat) + 1, t1 + 1, now, 0, 0⟩) ++ spR)) :: L.set js (sobj sb cf.seed 0 ((i : Nat) + 1) 0))[jb + 1]? = some (bE, row 5 (bv (sealB (macKey cf.seed ((0 : Nat) : Int) 0) ⟨1, ((0 : Nat) : Int), 0, 1, 0, va, 0⟩) ++ spE)) := get_set_ty hjb hsob (by show (5 : Nat) ≠ 121; decide)
        have hsgi : sgen 2 ((i : Nat) + 1) = (i : Nat) := by unfold sgen; rw [if_pos rfl]; omega
        have hsg : sgen 2 ((i : Nat) + 1) = x.gen := by rw [hsgi, hxg]
        have hokr : okK x (sgen 2 ((i : Nat) + 1)) now cf.grace = true := by unfold okK; rw [decide_eq_true hsg]; rfl
        refine TC.region ?_
        refine TL.val rfl rfl (Nat.le_of_ble_eq_true rfl) (Val.move rfl) ?_
        refine TL.val rfl rfl (Nat.le_of_ble_eq_true rfl) (Val.move rfl) ?_
        refine TL.val rfl rfl (Nat.le_of_ble_eq_true rfl) (Val.move rfl) ?_
        refine TL.does (some 108) rfl rfl rfl (Does.callF go32 rfl ((Check_nil gb rb lb nb cn ob co sn so cf N ak 0 on nw ol (((bR, row 5 (bv (sealB (macKey cf.seed ((0 : Nat) : Int) (i : Nat)) ⟨2, ((0 : Nat) : Int), (i : Nat) + 1, t1 + 1, now, 0, 0⟩) ++ spR)) :: L.set js (sobj sb cf.seed 0 ((i : Nat) + 1) 0)) ++ M) hN hon hnw hol2 hgrc ⟨by omega, by omega⟩ 0 x hx ⟨by omega, by omega⟩ ⟨by omega, by omega⟩ 2 ((i : Nat) + 1) (t1 + 1) now 0 0 ⟨by omega, by omega⟩ (fun _ => by omega) now hcf p p2 hp hp2 (ip + 1) t1 b1 0 ⟨by omega, by omega⟩ (by rw [if_pos hsg]; exact get_l hrep1) ⟨by omega, by omega⟩ hm2 ⟨by decide, by decide⟩ (tagB (tagOf (macKey cf.seed ((0 : Nat) : Int) (i : Nat)) (putM ⟨2, ((0 : Nat) : Int), (i : Nat) + 1, t1 + 1, now, 0, 0⟩))) (some ⟨bR, 0, none⟩) cR (rd_all (i := 0) (sp := spR) rfl) (by omega) (by simp)).mono (R' := fun v M' => v = .tuple #[.agg #[.int .i64 2, .int .i64 0, .int .i64 ((i : Nat) + 1), .int .i64 (t1 + 1), .int .i64 now, .int .i64 0, .int .i64 0], .int .i64 0] ∧ M' = (gateO gb cf rb (some ⟨nb, 0, none⟩) N cn (some ⟨ob, 0, none⟩) N co 0 :: ringO rb cf.seed lb N cf.grace (ak + 1) :: (lb, row 161 (on.flatMap On.cs)) :: (nb, row 118 (nw.map pp ++ sn)) :: (ob, row 118 (ol.map pp ++ so)) :: (((bR, row 5 (bv (sealB (macKey cf.seed ((0 : Nat) : Int) (i : Nat)) ⟨2, ((0 : Nat) : Int), (i : Nat) + 1, t1 + 1, now, 0, 0⟩) ++ spR)) :: L.set js (sobj sb cf.seed 0 ((i : Nat) + 1) 0)) ++ M))) (fun v M' h => h.elim (fun h => And.intro h.2.1 h.2.2) (fun h => False.elim (h.1 (by
                    rw [if_pos hokr, hsgi]; exact chk0 (hsgi ▸ hokr) (decide_eq_true (same_yes (tagOf_bd (macKey cf.seed ((0 : Nat) : Int) (i : Nat)) (putM ⟨2, ((0 : Nat) : Int), (i : Nat) + 1, t1 + 1, now, 0, 0⟩)).1 (tagOf_bd (macKey cf.seed ((0 : Nat) : Int) (i : Nat)) (putM ⟨2, ((0 : Nat) : Int), (i : Nat) + 1, t1 + 1, now, 0, 0⟩)).2)) (mayNext hwin) (staleN ⟨by omega, by omega⟩ hfr.1) (decide_eq_true (by omega)))))))) ?_
        rintro _ _ ⟨rfl, rfl⟩
        refine TL.val rfl rfl (Nat.le_of_ble_eq_true rfl) (Val.move rfl) ?_
        refine TL.val rfl rfl (Nat.le_of_ble_eq_true rfl) (Val.extract rfl rfl) ?_
        refine TL.val rfl rfl (Nat.le_of_ble_eq_true rfl) (Val.extract rfl rfl) ?_
        refine TL.does (some 22) rfl rfl rfl (Does.alloc ze61 rfl) ?_
        rintro _ _ ⟨bq, rfl, rfl⟩
        first
          | refine TL.does none rfl rfl rfl (Does.store (i := 0) rfl rfl rfl sz61 rfl rfl (by first | exact Nat.le_of_ble_eq_true rfl | decide | omega) rfl rfl) ?_
          | refine TL.does none rfl rfl rfl (Does.store (i := 1) rfl rfl rfl sz61 rfl rfl (by first | exact Nat.le_of_ble_eq_true rfl | decide | omega) rfl rfl) ?_
          | refine TL.does none rfl rfl rfl (Does.store (i := 2) rfl rfl rfl sz61 rfl rfl (by first | exact Nat.le_of_ble_eq_true rfl | decide | omega) rfl rfl) ?_
          | refine TL.does none rfl rfl rfl (Does.store (i := 3) rfl rfl rfl sz61 rfl rfl (by first | exact Nat.le_of_ble_eq_true rfl | decide | omega) rfl rfl) ?_
          | refine TL.does none rfl rfl rfl (Does.store (i := 4) rfl rfl rfl sz61 rfl rfl (by first | exact Nat.le_of_ble_eq_true rfl | decide | omega) rfl rfl) ?_
          | refine TL.does none rfl rfl rfl (Does.store (i := 5) rfl rfl rfl sz61 rfl rfl (by first | exact Nat.le_of_ble_eq_true rfl | decide | omega) rfl rfl) ?_
          | refine TL.does none rfl rfl rfl (Does.store (i := 6) rfl rfl rfl sz61 rfl rfl (by first | exact Nat.le_of_ble_eq_true rfl | decide | omega) rfl rfl) ?_
          | refine TL.does none rfl rfl rfl (Does.store (i := 7) rfl rfl rfl sz61 rfl rfl (by first | exact Nat.le_of_ble_eq_true rfl | decide | omega) rfl rfl) ?_
          | refine TL.does none rfl rfl rfl (Does.store (i := 8) rfl rfl rfl sz61 rfl rfl (by first | exact Nat.le_of_ble_eq_true rfl | decide | omega) rfl rfl) ?_
          | refine TL.does none rfl rfl rfl (Does.store (i := 9) rfl rfl rfl sz61 rfl rfl (by first | exact Nat.le_of_ble_eq_true rfl | decide | omega) rfl rfl) ?_
          | refine TL.does none rfl rfl rfl (Does.store (i := 10) rfl rfl rfl sz61 rfl rfl (by first | exact Nat.le_of_ble_eq_true rfl | decide | omega) rfl rfl) ?_
          | refine TL.does none rfl rfl rfl (Does.store (i := 11) rfl rfl rfl sz61 rfl rfl (by first | exact Nat.le_of_ble_eq_true rfl | decide | omega) rfl rfl) ?_
        rintro _ _ ⟨rfl, rfl⟩
        refine TL.val rfl rfl (Nat.le_of_ble_eq_true rfl) (Val.assign rfl) ?_
        refine TL.nil ?_
        refine AtX.then ?_
        refine TC.env (E' := [(3, _), (10, _), (11, _), (12, _), (18, _), (19, _), (20, _), (22, _), (23, _), (91, _), (92, _), (93, _), (94, _), (95, _), (98, _), (99, _), (100, _), (101, _), (102, _), (103, _), (104, _), (105, _), (106, _), (107, _), (108, _), (109, _), (110, _)]) (Sub.cons rfl (Sub.cons rfl (Sub.cons rfl (Sub.cons rfl (Sub.cons rfl (Sub.cons rfl (Sub.cons rfl (Sub.cons rfl (Sub.cons rfl (Sub.cons rfl (Sub.cons rfl (Sub.cons rfl (Sub.cons rfl (Sub.cons rfl (Sub.cons rfl (Sub.cons rfl (Sub.cons rfl (Sub.cons rfl (Sub.cons rfl (Sub.cons rfl (Sub.cons rfl (Sub.cons rfl (Sub.cons rfl (Sub.cons rfl (Sub.cons rfl (Sub.cons rfl (Sub.cons rfl (Sub.nil _)))))))))))))))))))))))))))) ?_
        refine TC.seq ?_
        refine TC.heap (M' := gateO gb cf rb (some ⟨nb, 0, none⟩) N cn (some ⟨ob, 0, none⟩) N co 0 :: ringO rb cf.seed lb N cf.grace (ak + 1) :: (lb, row 161 (on.flatMap On.cs)) :: (nb, row 118 (nw.map pp ++ sn)) :: (ob, row 118 (ol.map pp ++ so)) :: (((bq, .cells #[.int .i64 2, .int .i64 0, .int .i64 ((i : Nat) + 1), .int .i64 (t1 + 1), .int .i64 now, .int .i64 0, .int .i64 0] 61 (0, 0)) :: ((bR, row 5 (bv (sealB (macKey cf.seed ((0 : Nat) : Int) (i : Nat)) ⟨2, ((0 : Nat) : Int), (i : Nat) + 1, t1 + 1, now, 0, 0⟩) ++ spR)) :: L.set js (sobj sb cf.seed 0 ((i : Nat) + 1) 0))) ++ M)) (fun w h => ro_mv (A := [_]) (L := [_, _, _, _, _]) w h) ?_
        refine TC.region ?_
        refine TL.val rfl rfl (Nat.le_of_ble_eq_true rfl) (Val.move rfl) ?_
        refine TL.val rfl rfl (Nat.le_of_ble_eq_true rfl) (Val.neqI rfl rfl) ?_
        refine TL.val rfl rfl (Nat.le_of_ble_eq_true rfl) (Val.move rfl) ?_
        refine TL.valYes rfl rfl (Nat.le_of_ble_eq_true rfl) rfl (Nat.le_of_ble_eq_true rfl) rfl (Val.move rfl) ?_
        refine TL.valYes rfl rfl (Nat.le_of_ble_eq_true rfl) rfl (Nat.le_of_ble_eq_true rfl) rfl (Val.loadAgg 5 rfl ag61 sz61 rfl rfl rfl) ?_
        refine TL.valYes rfl rfl (Nat.le_of_ble_eq_true rfl) rfl (Nat.le_of_ble_eq_true rfl) rfl (Val.move rfl) ?_
        refine TL.doesYes (some 117) rfl rfl rfl (Nat.le_of_ble_eq_true rfl) rfl rfl (Does.callF go33 rfl (Take_r gb rb lb nb cn ob co sn so cf N (ak + 1) 0 on nw ol (((bq, .cells #[.int .i64 2, .int .i64 0, .int .i64 ((i : Nat) + 1), .int .i64 (t1 + 1), .int .i64 now, .int .i64 0, .int .i64 0] 61 (0, 0)) :: ((bR, row 5 (bv (sealB (macKey cf.seed ((0 : Nat) : Int) (i : Nat)) ⟨2, ((0 : Nat) : Int), (i : Nat) + 1, t1 + 1, now, 0, 0⟩) ++ spR)) :: L.set js (sobj sb cf.seed 0 ((i : Nat) + 1) 0))) ++ M) hN hon hnw hol2 hgrc ⟨by omega, by omega⟩ 0 x hx ⟨by omega, by omega⟩ ⟨by omega, by omega⟩ 2 ((i : Nat) + 1) (t1 + 1) now 0 0 ⟨by omega, by omega⟩ (fun _ => by omega) now hcf p p2 hp hp2 (ip + 2) t1 b1 0 ⟨by omega, by omega⟩ (by rw [if_pos hsg]; exact get_l hrep1) ⟨by omega, by omega⟩ hm2 hokr rfl rfl (mayNext hwin))) ?_
        rintro _ _ ⟨pn, rfl, rfl⟩
        refine TL.valYes rfl rfl (Nat.le_of_ble_eq_true rfl) rfl (Nat.le_of_ble_eq_true rfl) rfl (Val.neqI rfl rfl) ?_
        first
          | refine TL.val rfl rfl (Nat.le_of_ble_eq_true rfl) (Val.pickAnd rfl rfl rfl) ?_
          | refine TL.val rfl rfl (Nat.le_of_ble_eq_true rfl) (Val.pickOr rfl rfl rfl) ?_
          | refine TL.val rfl rfl (Nat.le_of_ble_eq_true rfl) (Val.pick rfl rfl rfl) ?_
        refine TL.nil ?_
        refine AtX.then ?_
        refine TC.env (E' := [(3, _), (10, _), (11, _), (12, _), (18, _), (19, _), (20, _), (22, _), (23, _), (91, _), (92, _), (93, _), (94, _), (95, _), (98, _), (99, _), (100, _), (101, _), (102, _), (103, _), (104, _), (105, _), (106, _), (107, _), (108, _), (109, _), (110, _), (111, _), (112, _), (113, _), (114, _), (115, _), (116, _), (117, _), (118, _), (119, _)]) (Sub.cons rfl (Sub.cons rfl (Sub.cons rfl (Sub.cons rfl (Sub.cons rfl (Sub.cons rfl (Sub.cons rfl (Sub.cons rfl (Sub.cons rfl (Sub.cons rfl (Sub.cons rfl (Sub.cons rfl (Sub.cons rfl (Sub.cons rfl (Sub.cons rfl (Sub.cons rfl (Sub.cons rfl (Sub.cons rfl (Sub.cons rfl (Sub.cons rfl (Sub.cons rfl (Sub.cons rfl (Sub.cons rfl (Sub.cons rfl (Sub.cons rfl (Sub.cons rfl (Sub.cons rfl (Sub.cons rfl (Sub.cons rfl (Sub.cons rfl (Sub.cons rfl (Sub.cons rfl (Sub.cons rfl (Sub.cons rfl (Sub.cons rfl (Sub.cons rfl (Sub.nil _))))))))))))))))))))))))))))))))))))) ?_
        first | refine TC.condP rfl (fun c4 => ?_) (fun c4 => ?_) | refine TC.condN rfl (fun c4 => ?_) (fun c4 => ?_) | refine TC.condB rfl (fun c4 => ?_) (fun c4 => ?_) | refine TC.cond rfl (fun c4 => ?_) (fun c4 => ?_)
        · skip
          (exfalso; simp at c4)
        · skip
          refine TC.env (E' := [(3, _), (10, _), (11, _), (12, _), (18, _), (19, _), (20, _), (22, _), (23, _), (91, _), (92, _), (93, _), (94, _), (95, _), (98, _), (99, _), (100, _), (101, _), (102, _), (103, _), (104, _), (105, _), (106, _), (107, _), (108, _), (109, _), (110, _), (111, _), (112, _), (113, _), (114, _), (115, _), (116, _), (117, _), (118, _), (119, _)]) (Sub.cons rfl (Sub.cons rfl (Sub.cons rfl (Sub.cons rfl (Sub.cons rfl (Sub.cons rfl (Sub.cons rfl (Sub.cons rfl (Sub.cons rfl (Sub.cons rfl (Sub.cons rfl (Sub.cons rfl (Sub.cons rfl (Sub.cons rfl (Sub.cons rfl (Sub.cons rfl (Sub.cons rfl (Sub.cons rfl (Sub.cons rfl (Sub.cons rfl (Sub.cons rfl (Sub.cons rfl (Sub.cons rfl (Sub.cons rfl (Sub.cons rfl (Sub.cons rfl (Sub.cons rfl (Sub.cons rfl (Sub.cons rfl (Sub.cons rfl (Sub.cons rfl (Sub.cons rfl (Sub.cons rfl (Sub.cons rfl (Sub.cons rfl (Sub.cons rfl (Sub.nil _))))))))))))))))))))))))))))))))))))) ?_
          refine TC.skip ?_
          refine AtX.blk ?_
          refine AtX.then ?_
          refine TC.env (E' := [(3, _), (10, _), (11, _), (12, _), (18, _), (19, _), (20, _), (22, _), (23, _), (91, _), (92, _), (93, _), (94, _), (95, _), (98, _), (99, _), (100, _), (101, _), (102, _), (103, _), (104, _), (105, _), (106, _), (107, _), (108, _), (109, _), (110, _), (111, _), (112, _), (113, _), (114, _), (115, _), (116, _), (117, _), (118, _), (119, _)]) (Sub.cons rfl (Sub.cons rfl (Sub.cons rfl (Sub.cons rfl (Sub.cons rfl (Sub.cons rfl (Sub.cons rfl (Sub.cons rfl (Sub.cons rfl (Sub.cons rfl (Sub.cons rfl (Sub.cons rfl (Sub.cons rfl (Sub.cons rfl (Sub.cons rfl (Sub.cons rfl (Sub.cons rfl (Sub.cons rfl (Sub.cons rfl (Sub.cons rfl (Sub.cons rfl (Sub.cons rfl (Sub.cons rfl (Sub.cons rfl (Sub.cons rfl (Sub.cons rfl (Sub.cons rfl (Sub.cons rfl (Sub.cons rfl (Sub.cons rfl (Sub.cons rfl (Sub.cons rfl (Sub.cons rfl (Sub.cons rfl (Sub.cons rfl (Sub.cons rfl (Sub.nil _))))))))))))))))))))))))))))))))))))) ?_
          refine TC.region ?_
          refine TL.val rfl rfl (Nat.le_of_ble_eq_true rfl) (Val.move rfl) ?_
          refine TL.val rfl rfl (Nat.le_of_ble_eq_true rfl) (Val.add rfl rfl (r := ((i + 1 : Nat) : Int)) (by rw [w_u64 (by omega) (by omega)]; push_cast; rfl)) ?_
          refine TL.val rfl rfl (Nat.le_of_ble_eq_true rfl) (Val.assign rfl) ?_
          refine TL.nil ?_
          refine AtX.round (i := (⟨i, L, on, nw, ol, x, ak, p, p2, ip, ip2, js, jb, t1, b1, t2, b2⟩ : OS)) (⟨i + 1, (repO pn cf.window 0 0 0 :: ((bq, .cells #[.int .i64 2, .int .i64 0, .int .i64 ((i : Nat) + 1), .int .i64 (t1 + 1), .int .i64 now, .int .i64 0, .int .i64 0] 61 (0, 0)) :: ((bR, row 5 (bv (sealB (macKey cf.seed ((0 : Nat) : Int) (i : Nat)) ⟨2, ((0 : Nat) : Int), (i : Nat) + 1, t1 + 1, now, 0, 0⟩) ++ spR)) :: L.set js (sobj sb cf.seed 0 ((i : Nat) + 1) 0))).set (ip + 2) (repO p cf.window (t1 + 1) (nextB cf.window b1) 0)), on.set 0 ⟨(i : Nat) + 1, now⟩, nw.set 0 pn, ol.set 0 p, ⟨(i : Nat) + 1, now⟩, ak + 1 + 1, pn, p, 0, ip + 3, js + 3, jb + 3, 0, 0, t1 + 1, nextB cf.window b1⟩ : OS) ?_ ?_ (Sub.cons rfl (Sub.cons rfl (Sub.cons rfl (Sub.cons rfl (Sub.cons rfl (Sub.cons rfl (Sub.nil _))))))) (fun w h => by rw [show ((((bq, .cells #[.int .i64 2, .int .i64 0, .int .i64 ((i : Nat) + 1), .int .i64 (t1 + 1), .int .i64 now, .int .i64 0, .int .i64 0] 61 (0, 0)) :: ((bR, row 5 (bv (sealB (macKey cf.seed ((0 : Nat) : Int) (i : Nat)) ⟨2, ((0 : Nat) : Int), (i : Nat) + 1, t1 + 1, now, 0, 0⟩) ++ spR)) :: L.set js (sobj sb cf.seed 0 ((i : Nat) + 1) 0))) ++ M)).set (ip + 2) (repO p cf.window (t1 + 1) (nextB cf.window b1) 0) = ((bq, .cells #[.int .i64 2, .int .i64 0, .int .i64 ((i : Nat) + 1), .int .i64 (t1 + 1), .int .i64 now, .int .i64 0, .int .i64 0] 61 (0, 0)) :: ((bR, row 5 (bv (sealB (macKey cf.seed ((0 : Nat) : Int) (i : Nat)) ⟨2, ((0 : Nat) : Int), (i : Nat) + 1, t1 + 1, now, 0, 0⟩) ++ spR)) :: L.set js (sobj sb cf.seed 0 ((i : Nat) + 1) 0))).set (ip + 2) (repO p cf.window (t1 + 1) (nextB cf.window b1) 0) ++ M from set_l (i := ip + 2) (x := repO p cf.window t1 b1 0) hrep1] at h; exact h)
          · exact OSI_next hrep1 hjs hjb3 hp hp2 hon hnw hol2 (by assumption) hasb ht1 h0
          · show (r - ((i + 1 : Nat) : Int)).toNat < (r - (i : Nat)).toNat; push_cast; omega
      · skip
        refine TC.exit ?_
        refine AtX.seqX ?_
        refine AtX.seqX ?_
        refine AtX.hit ?_
        refine AtX.then ?_
        refine TC.env (E' := [(3, _), (10, _), (12, _), (18, _)]) (Sub.cons rfl (Sub.cons rfl (Sub.cons rfl (Sub.cons rfl (Sub.nil _))))) ?_
        refine TC.seq ?_
        have hri : r = (i : Nat) := by omega
        refine TC.region ?_
        refine TL.val rfl rfl (Nat.le_of_ble_eq_true rfl) (Val.move rfl) ?_
        refine TL.val rfl rfl (Nat.le_of_ble_eq_true rfl) (Val.move rfl) ?_
        refine TL.val rfl rfl (Nat.le_of_ble_eq_true rfl) (Val.move rfl) ?_
        refine TL.does (some 124) rfl rfl rfl (Does.callF go32 rfl ((Check_nil gb rb lb nb cn ob co sn so cf N ak 0 on nw ol (L ++ M) hN hon hnw hol2 hgrc ⟨by omega, by omega⟩ 0 x hx ⟨by omega, by omega⟩ ⟨by omega, by omega⟩ 1 0 1 0 va 0 ⟨by decide, by decide⟩ (fun h => absurd h (by decide)) now hcf p p2 hp hp2 (if i = 0 then ip else ip2) (if i = 0 then t1 else t2) (if i = 0 then b1 else b2) 0 (by split <;> omega) (selrep hxg (get_l hrep) (get_l hrep2)) ⟨by omega, by omega⟩ hm ⟨by decide, by decide⟩ (tagB (tagOf (macKey cf.seed ((0 : Nat) : Int) 0) (putM ⟨1, ((0 : Nat) : Int), 0, 1, 0, va, 0⟩))) (some ⟨bE, 0, none⟩) cE (rd_all (i := jb) (sp := spE) (get_l hjb)) (by omega) (by simp)).mono (R' := fun v M' => ∃ (q : Ms) (code ref2 : Int), v = .tuple #[.agg #[.int .i64 q.kind, .int .i64 q.who, .int .i64 q.gen, .int .i64 q.seq, .int .i64 q.epoch, .int .i64 q.value, .int .i64 q.metric], .int .i64 code] ∧ ((code = 6 ∨ code = 4) ∧ (i = 0 → code = 6) ∧ (2 ≤ i → code = 4)) ∧ M' = (gateO gb cf rb (some ⟨nb, 0, none⟩) N cn (some ⟨ob, 0, none⟩) N co ref2 :: ringO rb cf.seed lb N cf.grace (ak + 1) :: (lb, row 161 (on.flatMap On.cs)) :: (nb, row 118 (nw.map pp ++ sn)) :: (ob, row 118 (ol.map pp ++ so)) :: (L ++ M))) (fun v M' h => by
            have hs0 : sgen 1 0 = 0 := rfl
            rw [hs0] at h
            rcases Nat.lt_or_ge i 2 with hi2 | hi2
            · have hok : okK x 0 now cf.grace = true := okOld hxg hxs2 hi2 hgrc.1
              rw [if_pos hok, hok, (decide_eq_true (same_yes (tagOf_bd (macKey cf.seed ((0 : Nat) : Int) 0) (putM ⟨1, ((0 : Nat) : Int), 0, 1, 0, va, 0⟩)).1 (tagOf_bd (macKey cf.seed ((0 : Nat) : Int) 0) (putM ⟨1, ((0 : Nat) : Int), 0, 1, 0, va, 0⟩)).2)), oldNo hwin h0 h1 hi2] at h
              rcases h with ⟨h1, _⟩ | ⟨_, h2, h3⟩
              · cases h1
              · exact ⟨msZ, 6, _, h2, ⟨.inl rfl, fun _ => rfl, fun h => absurd h (by omega)⟩, h3⟩
            · have hok : okK x 0 now cf.grace = false := okGone hxg hi2
              rw [hok] at h
              rcases h with ⟨h1, _⟩ | ⟨_, h2, h3⟩
              · cases h1
              · exact ⟨msZ, 4, _, h2, ⟨.inr rfl, fun h => absurd h (by omega), fun _ => rfl⟩, h3⟩))) ?_
        rintro _ _ ⟨q, code, ref2, rfl, hq, rfl⟩
        refine TL.val rfl rfl (Nat.le_of_ble_eq_true rfl) (Val.move rfl) ?_
        refine TL.val rfl rfl (Nat.le_of_ble_eq_true rfl) (Val.extract rfl rfl) ?_
        refine TL.val rfl rfl (Nat.le_of_ble_eq_true rfl) (Val.extract rfl rfl) ?_
        refine TL.does (some 24) rfl rfl rfl (Does.alloc ze61 rfl) ?_
        rintro _ _ ⟨b14, rfl, rfl⟩
        first
          | refine TL.does none rfl rfl rfl (Does.store (i := 0) rfl rfl rfl sz61 rfl rfl (by first | exact Nat.le_of_ble_eq_true rfl | decide | omega) rfl rfl) ?_
          | refine TL.does none rfl rfl rfl (Does.store (i := 1) rfl rfl rfl sz61 rfl rfl (by first | exact Nat.le_of_ble_eq_true rfl | decide | omega) rfl rfl) ?_
          | refine TL.does none rfl rfl rfl (Does.store (i := 2) rfl rfl rfl sz61 rfl rfl (by first | exact Nat.le_of_ble_eq_true rfl | decide | omega) rfl rfl) ?_
          | refine TL.does none rfl rfl rfl (Does.store (i := 3) rfl rfl rfl sz61 rfl rfl (by first | exact Nat.le_of_ble_eq_true rfl | decide | omega) rfl rfl) ?_
          | refine TL.does none rfl rfl rfl (Does.store (i := 4) rfl rfl rfl sz61 rfl rfl (by first | exact Nat.le_of_ble_eq_true rfl | decide | omega) rfl rfl) ?_
          | refine TL.does none rfl rfl rfl (Does.store (i := 5) rfl rfl rfl sz61 rfl rfl (by first | exact Nat.le_of_ble_eq_true rfl | decide | omega) rfl rfl) ?_
          | refine TL.does none rfl rfl rfl (Does.store (i := 6) rfl rfl rfl sz61 rfl rfl (by first | exact Nat.le_of_ble_eq_true rfl | decide | omega) rfl rfl) ?_
          | refine TL.does none rfl rfl rfl (Does.store (i := 7) rfl rfl rfl sz61 rfl rfl (by first | exact Nat.le_of_ble_eq_true rfl | decide | omega) rfl rfl) ?_
          | refine TL.does none rfl rfl rfl (Does.store (i := 8) rfl rfl rfl sz61 rfl rfl (by first | exact Nat.le_of_ble_eq_true rfl | decide | omega) rfl rfl) ?_
          | refine TL.does none rfl rfl rfl (Does.store (i := 9) rfl rfl rfl sz61 rfl rfl (by first | exact Nat.le_of_ble_eq_true rfl | decide | omega) rfl rfl) ?_
          | refine TL.does none rfl rfl rfl (Does.store (i := 10) rfl rfl rfl sz61 rfl rfl (by first | exact Nat.le_of_ble_eq_true rfl | decide | omega) rfl rfl) ?_
          | refine TL.does none rfl rfl rfl (Does.store (i := 11) rfl rfl rfl sz61 rfl rfl (by first | exact Nat.le_of_ble_eq_true rfl | decide | omega) rfl rfl) ?_
        rintro _ _ ⟨rfl, rfl⟩
        refine TL.val rfl rfl (Nat.le_of_ble_eq_true rfl) (Val.assign rfl) ?_
        refine TL.nil ?_
        refine AtX.then ?_
        refine TC.env (E' := [(3, _), (25, _)]) (Sub.cons rfl (Sub.cons rfl (Sub.nil _))) ?_
        refine TC.seq ?_
        refine TC.region ?_
        refine TL.does (some 127) rfl rfl rfl (Does.callF go35 rfl (told8_fn _)) ?_
        rintro _ _ ⟨rfl, rfl⟩
        refine TL.val rfl rfl (Nat.le_of_ble_eq_true rfl) (Val.move rfl) ?_
        refine TL.valYes rfl rfl (Nat.le_of_ble_eq_true rfl) rfl (Nat.le_of_ble_eq_true rfl) rfl (Val.move rfl) ?_
        refine TL.valYes rfl rfl (Nat.le_of_ble_eq_true rfl) rfl (Nat.le_of_ble_eq_true rfl) rfl (Val.eqlI rfl rfl) ?_
        refine TL.valYes rfl rfl (Nat.le_of_ble_eq_true rfl) rfl (Nat.le_of_ble_eq_true rfl) rfl (Val.move rfl) ?_
        refine TL.gen (fun gA hgA => ?_)
        refine TL.gval rfl rfl (Nat.le_of_ble_eq_true rfl) rfl (Nat.le_of_ble_eq_true rfl) rfl (fun hg => by subst hg; exact (Val.move rfl)) ?_
        refine TL.gval rfl rfl (Nat.le_of_ble_eq_true rfl) rfl (Nat.le_of_ble_eq_true rfl) rfl (fun hg => by subst hg; exact (Val.eqlI rfl rfl)) ?_
        first
          | refine TL.valYes rfl rfl (Nat.le_of_ble_eq_true rfl) rfl (Nat.le_of_ble_eq_true rfl) rfl (Val.same (v' := .bool true) (Val.pickAnd rfl rfl rfl) (congrArg Value.bool (by obtain ⟨h, _, _⟩ := hq; rcases h with h | h <;> simp [hgA, h]))) ?_
          | refine TL.valYes rfl rfl (Nat.le_of_ble_eq_true rfl) rfl (Nat.le_of_ble_eq_true rfl) rfl (Val.same (v' := .bool true) (Val.pickOr rfl rfl rfl) (congrArg Value.bool (by obtain ⟨h, _, _⟩ := hq; rcases h with h | h <;> simp [hgA, h]))) ?_
          | refine TL.valYes rfl rfl (Nat.le_of_ble_eq_true rfl) rfl (Nat.le_of_ble_eq_true rfl) rfl (Val.same (v' := .bool true) (Val.pick rfl rfl rfl) (congrArg Value.bool (by obtain ⟨h, _, _⟩ := hq; rcases h with h | h <;> simp [hgA, h]))) ?_
        first
          | refine TL.val rfl rfl (Nat.le_of_ble_eq_true rfl) (Val.same (v' := .bool true) (Val.pickAnd rfl rfl rfl) (rfl)) ?_
          | refine TL.val rfl rfl (Nat.le_of_ble_eq_true rfl) (Val.same (v' := .bool true) (Val.pickOr rfl rfl rfl) (rfl)) ?_
          | refine TL.val rfl rfl (Nat.le_of_ble_eq_true rfl) (Val.same (v' := .bool true) (Val.pick rfl rfl rfl) (rfl)) ?_
        refine TL.val rfl rfl (Nat.le_of_ble_eq_true rfl) (Val.move rfl) ?_
        refine TL.valYes rfl rfl (Nat.le_of_ble_eq_true rfl) rfl (Nat.le_of_ble_eq_true rfl) rfl (Val.move rfl) ?_
        refine TL.valYes rfl rfl (Nat.le_of_ble_eq_true rfl) rfl (Nat.le_of_ble_eq_true rfl) rfl (Val.convI rfl iu3 in32 rfl) ?_
        refine TL.valYes rfl rfl (Nat.le_of_ble_eq_true rfl) rfl (Nat.le_of_ble_eq_true rfl) rfl (Val.rem rfl rfl (by decide) (r := r) hr) ?_
        refine TL.valYes rfl rfl (Nat.le_of_ble_eq_true rfl) rfl (Nat.le_of_ble_eq_true rfl) rfl (Val.gtr rfl rfl) ?_
        refine TL.valYes rfl rfl (Nat.le_of_ble_eq_true rfl) rfl (Nat.le_of_ble_eq_true rfl) rfl (Val.move rfl) ?_
        refine TL.gen (fun gB hgB => ?_)
        refine TL.gval rfl rfl (Nat.le_of_ble_eq_true rfl) rfl (Nat.le_of_ble_eq_true rfl) rfl (fun hg => by subst hg; exact (Val.move rfl)) ?_
        refine TL.gval rfl rfl (Nat.le_of_ble_eq_true rfl) rfl (Nat.le_of_ble_eq_true rfl) rfl (fun hg => by subst hg; exact (Val.eqlI rfl rfl)) ?_
        first
          | refine TL.valYes rfl rfl (Nat.le_of_ble_eq_true rfl) rfl (Nat.le_of_ble_eq_true rfl) rfl (Val.same (v' := .bool true) (Val.pickAnd rfl rfl rfl) (congrArg Value.bool (by obtain ⟨_, h, _⟩ := hq; rw [hgB]; rcases Nat.eq_zero_or_pos i with h2 | h2; rw [h h2]; simp; rw [decide_eq_true (by omega)]; rfl))) ?_
          | refine TL.valYes rfl rfl (Nat.le_of_ble_eq_true rfl) rfl (Nat.le_of_ble_eq_true rfl) rfl (Val.same (v' := .bool true) (Val.pickOr rfl rfl rfl) (congrArg Value.bool (by obtain ⟨_, h, _⟩ := hq; rw [hgB]; rcases Nat.eq_zero_or_pos i with h2 | h2; rw [h h2]; simp; rw [decide_eq_true (by omega)]; rfl))) ?_
          | refine TL.valYes rfl rfl (Nat.le_of_ble_eq_true rfl) rfl (Nat.le_of_ble_eq_true rfl) rfl (Val.same (v' := .bool true) (Val.pick rfl rfl rfl) (congrArg Value.bool (by obtain ⟨_, h, _⟩ := hq; rw [hgB]; rcases Nat.eq_zero_or_pos i with h2 | h2; rw [h h2]; simp; rw [decide_eq_true (by omega)]; rfl))) ?_
        first
          | refine TL.val rfl rfl (Nat.le_of_ble_eq_true rfl) (Val.same (v' := .bool true) (Val.pickAnd rfl rfl rfl) (rfl)) ?_
          | refine TL.val rfl rfl (Nat.le_of_ble_eq_true rfl) (Val.same (v' := .bool true) (Val.pickOr rfl rfl rfl) (rfl)) ?_
          | refine TL.val rfl rfl (Nat.le_of_ble_eq_true rfl) (Val.same (v' := .bool true) (Val.pick rfl rfl rfl) (rfl)) ?_
        refine TL.val rfl rfl (Nat.le_of_ble_eq_true rfl) (Val.move rfl) ?_
        refine TL.valYes rfl rfl (Nat.le_of_ble_eq_true rfl) rfl (Nat.le_of_ble_eq_true rfl) rfl (Val.move rfl) ?_
        refine TL.valYes rfl rfl (Nat.le_of_ble_eq_true rfl) rfl (Nat.le_of_ble_eq_true rfl) rfl (Val.convI rfl iu3 in32 rfl) ?_
        refine TL.valYes rfl rfl (Nat.le_of_ble_eq_true rfl) rfl (Nat.le_of_ble_eq_true rfl) rfl (Val.rem rfl rfl (by decide) (r := r) hr) ?_
        refine TL.valYes rfl rfl (Nat.le_of_ble_eq_true rfl) rfl (Nat.le_of_ble_eq_true rfl) rfl (Val.lss rfl rfl) ?_
        refine TL.valYes rfl rfl (Nat.le_of_ble_eq_true rfl) rfl (Nat.le_of_ble_eq_true rfl) rfl (Val.move rfl) ?_
        refine TL.gen (fun gC hgC => ?_)
        refine TL.gval rfl rfl (Nat.le_of_ble_eq_true rfl) rfl (Nat.le_of_ble_eq_true rfl) rfl (fun hg => by subst hg; exact (Val.move rfl)) ?_
        refine TL.gval rfl rfl (Nat.le_of_ble_eq_true rfl) rfl (Nat.le_of_ble_eq_true rfl) rfl (fun hg => by subst hg; exact (Val.eqlI rfl rfl)) ?_
        first
          | refine TL.valYes rfl rfl (Nat.le_of_ble_eq_true rfl) rfl (Nat.le_of_ble_eq_true rfl) rfl (Val.same (v' := .bool true) (Val.pickAnd rfl rfl rfl) (congrArg Value.bool (by obtain ⟨_, _, h⟩ := hq; rw [hgC]; rcases Nat.lt_or_ge i 2 with h2 | h2; rw [decide_eq_true (by omega)]; rfl; rw [h h2]; simp))) ?_
          | refine TL.valYes rfl rfl (Nat.le_of_ble_eq_true rfl) rfl (Nat.le_of_ble_eq_true rfl) rfl (Val.same (v' := .bool true) (Val.pickOr rfl rfl rfl) (congrArg Value.bool (by obtain ⟨_, _, h⟩ := hq; rw [hgC]; rcases Nat.lt_or_ge i 2 with h2 | h2; rw [decide_eq_true (by omega)]; rfl; rw [h h2]; simp))) ?_
          | refine TL.valYes rfl rfl (Nat.le_of_ble_eq_true rfl) rfl (Nat.le_of_ble_eq_true rfl) rfl (Val.same (v' := .bool true) (Val.pick rfl rfl rfl) (congrArg Value.bool (by obtain ⟨_, _, h⟩ := hq; rw [hgC]; rcases Nat.lt_or_ge i 2 with h2 | h2; rw [decide_eq_true (by omega)]; rfl; rw [h h2]; simp))) ?_
        first
          | refine TL.val rfl rfl (Nat.le_of_ble_eq_true rfl) (Val.same (v' := .bool true) (Val.pickAnd rfl rfl rfl) (rfl)) ?_
          | refine TL.val rfl rfl (Nat.le_of_ble_eq_true rfl) (Val.same (v' := .bool true) (Val.pickOr rfl rfl rfl) (rfl)) ?_
          | refine TL.val rfl rfl (Nat.le_of_ble_eq_true rfl) (Val.same (v' := .bool true) (Val.pick rfl rfl rfl) (rfl)) ?_
        refine TL.val rfl rfl (Nat.le_of_ble_eq_true rfl) (Val.assign rfl) ?_
        refine TL.nil ?_
        refine AtX.then ?_
        refine TC.env (E' := [(8, _)]) (Sub.cons rfl (Sub.nil _)) ?_
        refine TC.ret1 (fn := Try.f6) (fun _ _ h => h) rfl (RV.tmp rfl) (M' := M) (by repeat (first | exact ro_refl | exact ro_pre | refine ro_tail ?_ | refine ro_app ?_)) ?_
        exact ⟨rfl, rfl⟩

end Go.Proofs.Ytphoapajlcaoeaa
