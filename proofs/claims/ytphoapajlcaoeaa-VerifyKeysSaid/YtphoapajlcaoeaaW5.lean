/- Texts put together: A38. -/
import Derived.Test.YtphoapajlcaoeaaW4
import Derived.Test.YtphoapajlcaoeaaG3
import Derived.Test.YtphoapajlcaoeaaG1
/- walks -/
set_option linter.unusedVariables false
set_option linter.unusedSimpArgs false
set_option maxRecDepth 100000
set_option maxHeartbeats 4000000
namespace Go.Proofs.Ytphoapajlcaoeaa
open Go Go.X
def eqbM (a b : Ms) : Bool := decide (a.kind = b.kind) && (decide (a.who = b.who) && (decide (a.gen = b.gen) && (decide (a.seq = b.seq) && (decide (a.epoch = b.epoch) && (decide (a.value = b.value) && (decide (a.metric = b.metric) && true))))))
theorem eqbM_self (a : Ms) : eqbM a a = true := by simp [eqbM]
theorem msEq (a b : Ms) : EqV Try.prog 2 61 (.agg #[.int .i64 a.kind, .int .i64 a.who, .int .i64 a.gen, .int .i64 a.seq, .int .i64 a.epoch, .int .i64 a.value, .int .i64 a.metric]) (.agg #[.int .i64 b.kind, .int .i64 b.who, .int .i64 b.gen, .int .i64 b.seq, .int .i64 b.epoch, .int .i64 b.value, .int .i64 b.metric]) (eqbM a b) :=
  EqV.struct (by kernel_rfl) (EqI.cons fl61_0 (by kernel_rfl) ag3 rfl rfl (.int in3) (EqI.cons fl61_1 (by kernel_rfl) ag3 rfl rfl (.int in3) (EqI.cons fl61_2 (by kernel_rfl) ag3 rfl rfl (.int in3) (EqI.cons fl61_3 (by kernel_rfl) ag2 rfl rfl (.int in2) (EqI.cons fl61_4 (by kernel_rfl) ag2 rfl rfl (.int in2) (EqI.cons fl61_5 (by kernel_rfl) ag2 rfl rfl (.int in2) (EqI.cons fl61_6 (by kernel_rfl) ag3 rfl rfl (.int in3) (EqI.done (Nat.le_of_ble_eq_true (by kernel_rfl))))))))))
theorem Val.eqlMs {N : Nat} {z : World} {E : Env} {M : Hp} {dst : Option Tmp} {ty : TypeId} {pos : String} {af : Array Edge} {gu : Option (Nat × Bool)} {yt : TypeId} {x y : Operand} {a b : Ms} (hx : ev E x = some (.agg #[.int .i64 a.kind, .int .i64 a.who, .int .i64 a.gen, .int .i64 a.seq, .int .i64 a.epoch, .int .i64 a.value, .int .i64 a.metric])) (hy : ev E y = some (.agg #[.int .i64 b.kind, .int .i64 b.who, .int .i64 b.gen, .int .i64 b.seq, .int .i64 b.epoch, .int .i64 b.value, .int .i64 b.metric])) :
    Go.X.Val Try.prog N z E M ⟨dst, .binOp .eql 61 x y yt, ty, pos, af, gu⟩ (.bool (eqbM a b)) :=
  Go.X.Val.eqlG hx hy (by kernel_rfl) (msEq a b) (by decide)
theorem Val.neqMs {N : Nat} {z : World} {E : Env} {M : Hp} {dst : Option Tmp} {ty : TypeId} {pos : String} {af : Array Edge} {gu : Option (Nat × Bool)} {yt : TypeId} {x y : Operand} {a b : Ms} (hx : ev E x = some (.agg #[.int .i64 a.kind, .int .i64 a.who, .int .i64 a.gen, .int .i64 a.seq, .int .i64 a.epoch, .int .i64 a.value, .int .i64 a.metric])) (hy : ev E y = some (.agg #[.int .i64 b.kind, .int .i64 b.who, .int .i64 b.gen, .int .i64 b.seq, .int .i64 b.epoch, .int .i64 b.value, .int .i64 b.metric])) :
    Go.X.Val Try.prog N z E M ⟨dst, .binOp .neq 61 x y yt, ty, pos, af, gu⟩ (.bool (!(eqbM a b))) :=
  Go.X.Val.neqG hx hy (by kernel_rfl) (msEq a b) (by decide)
theorem same_sym {t u : K2} (ht : (0 ≤ t.a ∧ t.a ≤ 18446744073709551615) ∧ (0 ≤ t.b ∧ t.b ≤ 18446744073709551615)) (hu : (0 ≤ u.a ∧ u.a ≤ 18446744073709551615) ∧ (0 ≤ u.b ∧ u.b ≤ 18446744073709551615)) :
    decide (bitsOf .or .u64 (xor64 u.a (get8 (tagB t) 0 : Nat)) (xor64 u.b (get8 (tagB t) 8 : Nat)) = 0) = decide (bitsOf .or .u64 (xor64 t.a u.a) (xor64 t.b u.b) = 0) := by
  obtain ⟨h1, h2⟩ := tagB_get ht.1 ht.2
  rw [h1, h2]
  apply decide_eq_decide.2
  rw [same_iff hu.1 ht.1 hu.2 ht.2, same_iff ht.1 hu.1 ht.2 hu.2]
  exact ⟨fun h => ⟨h.1.symm, h.2.symm⟩, fun h => ⟨h.1.symm, h.2.symm⟩⟩
theorem same_self {t : K2} (ht : (0 ≤ t.a ∧ t.a ≤ 18446744073709551615) ∧ (0 ≤ t.b ∧ t.b ≤ 18446744073709551615)) : bitsOf .or .u64 (xor64 t.a t.a) (xor64 t.b t.b) = 0 := (same_iff ht.1 ht.1 ht.2 ht.2).2 ⟨rfl, rfl⟩
theorem stale1 {f ep : Int} (h : 0 ≤ ep ∧ ep < f) (hf : f ≤ 8) : (decide (ep < 0) || decide (f ≤ IntKind.u64.wrap (ep - 0))) = false := by
  rw [decide_eq_false (by omega), decide_eq_false (by rw [w_u64 (by omega) (by omega)]; omega)]; rfl
/-- quorumite/quorumitelaw8.VerifyKeys -/
theorem VerifyKeys_fn (zs : List Int) (A : Option Addr) (n cA : Nat) (who by_ gen epoch value : Int) (M : Hp) (hA : RdS M A (zs.map (Value.int .i64))) (hn : n = zs.length) : FnC Try.prog 7 #[.slice A n cA, .int .i64 who, .int .i64 by_, .int .i64 gen, .int .i64 epoch, .int .i64 value] M (fun v M' => v = .bool true ∧ M = M') := by
  refine FnC.intro Try.func7 rfl 136 rfl (by simp) (fun z => ?_)
  refine TC.env (E' := [(0, _), (1, _), (2, _), (3, _), (4, _), (5, _)]) (Sub.cons rfl (Sub.cons rfl (Sub.cons rfl (Sub.cons rfl (Sub.cons rfl (Sub.cons rfl (Sub.nil _))))))) ?_
  refine TC.seq ?_
  refine TC.region ?_
  refine TL.val rfl rfl (Nat.le_of_ble_eq_true rfl) (Val.assign rfl) ?_
  refine TL.nil ?_
  refine AtX.then ?_
  refine TC.seq ?_
  refine TC.region ?_
  refine TL.val rfl rfl (Nat.le_of_ble_eq_true rfl) (Val.move rfl) ?_
  refine TL.does (some 27) rfl rfl rfl (Does.callF go11 rfl (Fit_fn zs A n cA _ hA hn)) ?_
  rintro _ _ ⟨cf, rfl, hcf, rfl⟩
  have hn16 := hcf.n
  have hfr := hcf.fresh
  have hmm := hcf.m
  have hwin := hcf.window
  have hgrc := hcf.grace
  obtain ⟨N, hN⟩ : ∃ N : Nat, cf.n = N := ⟨cf.n.toNat, by omega⟩
  refine TL.does (some 13) rfl rfl rfl (Does.alloc ze26 rfl) ?_
  rintro _ _ ⟨b2, rfl, rfl⟩
  refine TL.does none rfl rfl rfl (Does.storeR (ys' := [.int .i64 (cf.n), .int .i64 (cf.f), .int .i64 (cf.m), .int .i64 (cf.quorum), .int .i64 (cf.fresh), .int .i64 (cf.grace), .int .i64 (cf.window), .int .i64 (cf.t0), .int .i64 (cf.t1), .int .i64 (cf.t2), .int .i64 (cf.t3), .int .i64 (cf.tol), .int .i64 (cf.min), .int .i64 (cf.max), .int .i64 (cf.calmup), .int .i64 (cf.calmdown), .int .i64 (cf.podsup), .int .i64 (cf.pctup), .int .i64 (cf.podsdown), .int .i64 (cf.pctdown), .int .i64 (cf.period), .int .i64 (cf.far), .int .i64 (cf.strikes), .int .i64 (cf.probe), .int .i64 (cf.sectors), .int .u64 (cf.seed)]) 0 rfl rfl rfl sz26 rfl rfl (by exact Nat.le_of_ble_eq_true rfl) rfl) ?_
  rintro _ _ ⟨rfl, rfl⟩
  refine TL.nil ?_
  refine AtX.then ?_
  refine TC.env (E' := [(1, _), (2, _), (3, _), (4, _), (5, _), (12, _), (13, _)]) (Sub.cons rfl (Sub.cons rfl (Sub.cons rfl (Sub.cons rfl (Sub.cons rfl (Sub.cons rfl (Sub.cons rfl (Sub.nil _)))))))) ?_
  refine TC.seq ?_
  refine TC.region ?_
  refine TL.val rfl rfl (Nat.le_of_ble_eq_true rfl) (Val.loadAgg (vs := [.int .i64 (cf.n), .int .i64 (cf.f), .int .i64 (cf.m), .int .i64 (cf.quorum), .int .i64 (cf.fresh), .int .i64 (cf.grace), .int .i64 (cf.window), .int .i64 (cf.t0), .int .i64 (cf.t1), .int .i64 (cf.t2), .int .i64 (cf.t3), .int .i64 (cf.tol), .int .i64 (cf.min), .int .i64 (cf.max), .int .i64 (cf.calmup), .int .i64 (cf.calmdown), .int .i64 (cf.podsup), .int .i64 (cf.pctup), .int .i64 (cf.podsdown), .int .i64 (cf.pctdown), .int .i64 (cf.period), .int .i64 (cf.far), .int .i64 (cf.strikes), .int .i64 (cf.probe), .int .i64 (cf.sectors), .int .u64 (cf.seed)]) 0 rfl ag26 sz26 rfl rfl rfl) ?_
  refine TL.does (some 29) rfl rfl rfl (Does.callF go29 rfl (gNew_fn cf N _ hcf hN)) ?_
  rintro _ _ ⟨gb, rb, lb, nb, cn, sn, ob, co, so, nws, ols, rfl, hnl, hol, rfl⟩
  refine TL.val rfl rfl (Nat.le_of_ble_eq_true rfl) (Val.assign rfl) ?_
  refine TL.nil ?_
  refine AtX.then ?_
  refine TC.env (E' := [(1, _), (2, _), (3, _), (4, _), (5, _), (12, _), (13, _), (14, _)]) (Sub.cons rfl (Sub.cons rfl (Sub.cons rfl (Sub.cons rfl (Sub.cons rfl (Sub.cons rfl (Sub.cons rfl (Sub.cons rfl (Sub.nil _))))))))) ?_
  refine TC.seq ?_
  refine TC.seq ?_
  refine TC.heap (M' := gateO gb cf rb (some ⟨nb, 0, none⟩) N cn (some ⟨ob, 0, none⟩) N co 0 :: ringO rb cf.seed lb N cf.grace 0 :: (lb, row 161 ((List.replicate N (⟨0, 0⟩ : On)).flatMap On.cs)) :: (nb, row 118 (nws.map pp ++ sn)) :: (ob, row 118 (ols.map pp ++ so)) :: (b2, .cells #[.int .i64 (cf.n), .int .i64 (cf.f), .int .i64 (cf.m), .int .i64 (cf.quorum), .int .i64 (cf.fresh), .int .i64 (cf.grace), .int .i64 (cf.window), .int .i64 (cf.t0), .int .i64 (cf.t1), .int .i64 (cf.t2), .int .i64 (cf.t3), .int .i64 (cf.tol), .int .i64 (cf.min), .int .i64 (cf.max), .int .i64 (cf.calmup), .int .i64 (cf.calmdown), .int .i64 (cf.podsup), .int .i64 (cf.pctup), .int .i64 (cf.podsdown), .int .i64 (cf.pctdown), .int .i64 (cf.period), .int .i64 (cf.far), .int .i64 (cf.strikes), .int .i64 (cf.probe), .int .i64 (cf.sectors), .int .u64 (cf.seed)] 26 (0, 0)) :: ((nws.map fun p => repO p cf.window 0 0 0) ++ ((ols.map fun p => repO p cf.window 0 0 0) ++ M))) ro_bx ?_
  refine TC.region ?_
  refine TL.val rfl rfl (Nat.le_of_ble_eq_true rfl) (Val.move rfl) ?_
  refine TL.val rfl rfl (Nat.le_of_ble_eq_true rfl) (Val.eqlNil rfl rfl pt55) ?_
  refine TL.nil ?_
  refine AtX.then ?_
  refine TC.env (E' := [(1, _), (2, _), (3, _), (4, _), (5, _), (12, _), (13, _), (14, _), (31, _)]) (Sub.cons rfl (Sub.cons rfl (Sub.cons rfl (Sub.cons rfl (Sub.cons rfl (Sub.cons rfl (Sub.cons rfl (Sub.cons rfl (Sub.cons rfl (Sub.nil _)))))))))) ?_
  first | refine TC.condP rfl (fun c1 => ?_) (fun c1 => ?_) | refine TC.condN rfl (fun c1 => ?_) (fun c1 => ?_) | refine TC.condB rfl (fun c1 => ?_) (fun c1 => ?_) | refine TC.cond rfl (fun c1 => ?_) (fun c1 => ?_)
  · skip
    (exfalso; simp at c1)
  · skip
    refine TC.env (E' := [(1, _), (2, _), (3, _), (4, _), (5, _), (12, _), (13, _), (14, _)]) (Sub.cons rfl (Sub.cons rfl (Sub.cons rfl (Sub.cons rfl (Sub.cons rfl (Sub.cons rfl (Sub.cons rfl (Sub.cons rfl (Sub.nil _))))))))) ?_
    refine TC.skip ?_
    refine AtX.then ?_
    refine TC.env (E' := [(1, _), (2, _), (3, _), (4, _), (5, _), (12, _), (13, _), (14, _)]) (Sub.cons rfl (Sub.cons rfl (Sub.cons rfl (Sub.cons rfl (Sub.cons rfl (Sub.cons rfl (Sub.cons rfl (Sub.cons rfl (Sub.nil _))))))))) ?_
    refine TC.seq ?_
    obtain ⟨r1, hr1, g1_, l1_⟩ := rem_ex (m := IntKind.u64.wrap who) (d := cf.n) (by rw [w_u64m]; omega) (by omega)
    obtain ⟨k, hkr⟩ : ∃ k : Nat, r1 = k := ⟨r1.toNat, by omega⟩
    subst hkr
    have hk := hr1
    have hkN : k < N := by omega
    obtain ⟨rb_, hrb, g2_, l2_⟩ := rem_ex (m := IntKind.u64.wrap by_) (d := 16) (by rw [w_u64m]; omega) (by decide)
    obtain ⟨rg_, hrg, g3_, l3_⟩ := rem_ex (m := IntKind.u64.wrap gen) (d := 3) (by rw [w_u64m]; omega) (by decide)
    obtain ⟨ep, hep, g4_, l4_⟩ := rem_ex (m := IntKind.u64.wrap epoch) (d := cf.fresh) (by rw [w_u64m]; omega) (by omega)
    obtain ⟨va, hva, g5_, l5_⟩ := rem_ex (m := IntKind.u64.wrap value) (d := 1099511627776) (by rw [w_u64m]; omega) (by decide)
    have hepb : 0 ≤ ep ∧ ep < cf.fresh := ⟨g4_, l4_⟩
    have hm : mayM ⟨1, ((k : Nat) : Int), 0, 1, ep, va, 0⟩ = true := mayM_iff.2 (by simp; omega)
    obtain ⟨p, hp⟩ : ∃ p, nws[k]? = some p := ⟨_, List.getElem?_eq_getElem (by omega)⟩
    obtain ⟨p2, hp2⟩ : ∃ p2, ols[k]? = some p2 := ⟨_, List.getElem?_eq_getElem (by omega)⟩
    have hx0 : (List.replicate N (⟨0, 0⟩ : On))[k]? = some (⟨0, 0⟩ : On) := by rw [List.getElem?_replicate, if_pos (by omega)]
    refine TC.region ?_
    refine TL.val rfl rfl (Nat.le_of_ble_eq_true rfl) (Val.move rfl) ?_
    refine TL.val rfl rfl (Nat.le_of_ble_eq_true rfl) (Val.convI rfl iu3 in32 rfl) ?_
    refine TL.val rfl rfl (Nat.le_of_ble_eq_true rfl) (Val.fieldAddr rfl fl26_0 sz3 rfl) ?_
    refine TL.val rfl rfl (Nat.le_of_ble_eq_true rfl) (Val.load 5 rfl ag3 rfl rfl) ?_
    refine TL.val rfl rfl (Nat.le_of_ble_eq_true rfl) (Val.convI rfl iu3 in32 (r := cf.n) (w_u64 (by omega) (by omega))) ?_
    refine TL.val rfl rfl (Nat.le_of_ble_eq_true rfl) (Val.rem rfl rfl (by omega) (r := ((k : Nat) : Int)) hk) ?_
    refine TL.val rfl rfl (Nat.le_of_ble_eq_true rfl) (Val.convI rfl iu32 in3 (r := ((k : Nat) : Int)) (w_i64 (by omega) (by omega))) ?_
    refine TL.val rfl rfl (Nat.le_of_ble_eq_true rfl) (Val.move rfl) ?_
    refine TL.val rfl rfl (Nat.le_of_ble_eq_true rfl) (Val.convI rfl iu3 in32 rfl) ?_
    refine TL.val rfl rfl (Nat.le_of_ble_eq_true rfl) (Val.rem rfl rfl (by decide) (r := rb_) hrb) ?_
    refine TL.val rfl rfl (Nat.le_of_ble_eq_true rfl) (Val.convI rfl iu32 in3 (r := rb_) (w_i64 (by omega) (by omega))) ?_
    refine TL.val rfl rfl (Nat.le_of_ble_eq_true rfl) (Val.move rfl) ?_
    refine TL.val rfl rfl (Nat.le_of_ble_eq_true rfl) (Val.convI rfl iu3 in32 rfl) ?_
    refine TL.val rfl rfl (Nat.le_of_ble_eq_true rfl) (Val.rem rfl rfl (by decide) (r := rg_) hrg) ?_
    refine TL.val rfl rfl (Nat.le_of_ble_eq_true rfl) (Val.convI rfl iu32 in3 (r := rg_) (w_i64 (by omega) (by omega))) ?_
    refine TL.val rfl rfl (Nat.le_of_ble_eq_true rfl) (Val.assign rfl) ?_
    refine TL.val rfl rfl (Nat.le_of_ble_eq_true rfl) (Val.assign rfl) ?_
    refine TL.val rfl rfl (Nat.le_of_ble_eq_true rfl) (Val.assign rfl) ?_
    refine TL.nil ?_
    refine AtX.then ?_
    refine TC.env (E' := [(4, _), (5, _), (12, _), (13, _), (14, _), (15, _), (16, _), (17, _)]) (Sub.cons rfl (Sub.cons rfl (Sub.cons rfl (Sub.cons rfl (Sub.cons rfl (Sub.cons rfl (Sub.cons rfl (Sub.cons rfl (Sub.nil _))))))))) ?_
    refine TC.seq ?_
    refine TC.region ?_
    refine TL.val rfl rfl (Nat.le_of_ble_eq_true rfl) (Val.move rfl) ?_
    refine TL.val rfl rfl (Nat.le_of_ble_eq_true rfl) (Val.move rfl) ?_
    refine TL.val rfl rfl (Nat.le_of_ble_eq_true rfl) (Val.convI rfl iu2 in24 rfl) ?_
    refine TL.val rfl rfl (Nat.le_of_ble_eq_true rfl) (Val.fieldAddr rfl fl26_4 sz3 rfl) ?_
    refine TL.val rfl rfl (Nat.le_of_ble_eq_true rfl) (Val.load 5 rfl ag3 rfl rfl) ?_
    refine TL.val rfl rfl (Nat.le_of_ble_eq_true rfl) (Val.convI rfl iu3 in24 (r := cf.fresh) (w_u64 (by omega) (by omega))) ?_
    refine TL.val rfl rfl (Nat.le_of_ble_eq_true rfl) (Val.rem rfl rfl (by omega) (r := ep) hep) ?_
    refine TL.val rfl rfl (Nat.le_of_ble_eq_true rfl) (Val.convI rfl iu24 in2 (r := ep) (w_i64 (by omega) (by omega))) ?_
    refine TL.val rfl rfl (Nat.le_of_ble_eq_true rfl) (Val.move rfl) ?_
    refine TL.val rfl rfl (Nat.le_of_ble_eq_true rfl) (Val.convI rfl iu2 in24 rfl) ?_
    refine TL.val rfl rfl (Nat.le_of_ble_eq_true rfl) (Val.rem rfl rfl (by decide) (r := va) hva) ?_
    refine TL.val rfl rfl (Nat.le_of_ble_eq_true rfl) (Val.convI rfl iu24 in2 (r := va) (w_i64 (by omega) (by omega))) ?_
    refine TL.val rfl rfl (Nat.le_of_ble_eq_true rfl) (Val.buildS pl61 ze61 rfl rfl) ?_
    refine TL.does (some 18) rfl rfl rfl (Does.alloc ze61 rfl) ?_
    rintro _ _ ⟨bm, rfl, rfl⟩
    first
      | refine TL.does none rfl rfl rfl (Does.store (i := 0) rfl rfl rfl sz61 rfl rfl (by first | exact Nat.le_of_ble_eq_true rfl | decide | omega) rfl rfl) ?_
      | refine TL.does none rfl rfl rfl (Does.store (i := 1) rfl rfl rfl sz61 rfl rfl (by first | exact Nat.le_of_ble_eq_true rfl | decide | omega) rfl rfl) ?_
      | refine TL.does none rfl rfl rfl (Does.store (i := 2) rfl rfl rfl sz61 rfl rfl (by first | exact Nat.le_of_ble_eq_true rfl | decide | omega) rfl rfl) ?_
      | refine TL.does none rfl rfl rfl (Does.store (i := 3) rfl rfl rfl sz61 rfl rfl (by first | exact Nat.le_of_ble_eq_true rfl | decide | omega) rfl rfl) ?_
      | refine TL.does none rfl rfl rfl (Does.store (i := 4) rfl rfl rfl sz61 rfl rfl (by first | exact Nat.le_of_ble_eq_true rfl | decide | omega) rfl rfl) ?_
      | refine TL.does none rfl rfl rfl (Does.store (i := 5) rfl rfl rfl sz61 rfl rfl (by first | exact Nat.le_of_ble_eq_true rfl | decide | omega) rfl rfl) ?_
      | refine TL.does none rfl rfl rfl (Does.store (i := 6) rfl rfl rfl sz61 rfl rfl (by first | exact Nat.le_of_ble_eq_true rfl | decide | omega) rfl rfl) ?_
      | refine TL.does none rfl rfl rfl (Does.store (i := 7) rfl rfl rfl sz61 rfl rfl (by first | exact Nat.le_of_ble_eq_true rfl | decide | omega) rfl rfl) ?_
      | refine TL.does none rfl rfl rfl (Does.store (i := 8) rfl rfl rfl sz61 rfl rfl (by first | exact Nat.le_of_ble_eq_true rfl | decide | omega) rfl rfl) ?_
      | refine TL.does none rfl rfl rfl (Does.store (i := 9) rfl rfl rfl sz61 rfl rfl (by first | exact Nat.le_of_ble_eq_true rfl | decide | omega) rfl rfl) ?_
    rintro _ _ ⟨rfl, rfl⟩
    refine TL.nil ?_
    refine AtX.then ?_
    refine TC.env (E' := [(12, _), (13, _), (14, _), (15, _), (16, _), (17, _), (18, _)]) (Sub.cons rfl (Sub.cons rfl (Sub.cons rfl (Sub.cons rfl (Sub.cons rfl (Sub.cons rfl (Sub.cons rfl (Sub.nil _)))))))) ?_
    refine TC.seq ?_
    refine TC.heap (M' := gateO gb cf rb (some ⟨nb, 0, none⟩) N cn (some ⟨ob, 0, none⟩) N co 0 :: ringO rb cf.seed lb N cf.grace 0 :: (lb, row 161 ((List.replicate N (⟨0, 0⟩ : On)).flatMap On.cs)) :: (nb, row 118 (nws.map pp ++ sn)) :: (ob, row 118 (ols.map pp ++ so)) :: ((bm, .cells #[.int .i64 1, .int .i64 ((k : Nat) : Int), .int .i64 0, .int .i64 1, .int .i64 ep, .int .i64 va, .int .i64 0] 61 (0, 0)) :: (b2, .cells #[.int .i64 (cf.n), .int .i64 (cf.f), .int .i64 (cf.m), .int .i64 (cf.quorum), .int .i64 (cf.fresh), .int .i64 (cf.grace), .int .i64 (cf.window), .int .i64 (cf.t0), .int .i64 (cf.t1), .int .i64 (cf.t2), .int .i64 (cf.t3), .int .i64 (cf.tol), .int .i64 (cf.min), .int .i64 (cf.max), .int .i64 (cf.calmup), .int .i64 (cf.calmdown), .int .i64 (cf.podsup), .int .i64 (cf.pctup), .int .i64 (cf.podsdown), .int .i64 (cf.pctdown), .int .i64 (cf.period), .int .i64 (cf.far), .int .i64 (cf.strikes), .int .i64 (cf.probe), .int .i64 (cf.sectors), .int .u64 (cf.seed)] 26 (0, 0)) :: ((nws.map fun p => repO p cf.window 0 0 0) ++ ((ols.map fun p => repO p cf.window 0 0 0) ++ M)))) (fun w h => ro_mv (A := [_]) (L := [_, _, _, _, _]) w h) ?_
    refine TC.drawLM mixed 12 ?_
    refine TA.tk 0 1 rfl rfl rfl (Val.fieldAddr rfl fl26_22 sz24 rfl) ?_
    refine TA.tk 1 3 rfl rfl rfl (Val.load 6 rfl ag24 rfl rfl) ?_
    refine TA.tk 2 7 rfl rfl rfl (Val.move rfl) ?_
    refine TA.tk 3 15 rfl rfl rfl (Val.move rfl) ?_
    refine TA.tk 5 47 rfl rfl rfl (Val.loadAgg 5 rfl ag61 sz61 rfl rfl rfl) ?_
    refine TA.one 4 (by kernel_rfl) ?_
    refine TO.dz 63 (some 65) rfl rfl rfl rfl (Does.callF go37 rfl (Of_fn _ _ _ _)) ?_
    rintro _ _ ⟨rfl, rfl⟩
    refine roK ?_
    refine TA.one 6 (by kernel_rfl) ?_
    refine TO.dz 127 (some 67) rfl rfl rfl rfl (Does.callF go36 rfl (wSeal_fn (macKey cf.seed rb_ rg_) ⟨1, ((k : Nat) : Int), 0, 1, ep, va, 0⟩ _ hm)) ?_
    rintro _ _ ⟨bE, cE, spE, rfl, hcE, rfl⟩
    refine roK ?_
    refine TA.tk 7 255 rfl rfl rfl (Val.move rfl) ?_
    refine TA.tk 8 511 rfl rfl rfl (Val.extract rfl rfl) ?_
    refine TA.tk 9 1023 rfl rfl rfl (Val.extract rfl rfl) ?_
    refine TA.tk 10 2047 rfl rfl rfl (Val.assign rfl) ?_
    refine TA.tk 11 4095 rfl rfl rfl (Val.assign rfl) ?_
    refine TA.done (by kernel_rfl) ?_
    refine AtX.then ?_
    refine TC.env (E' := [(12, _), (13, _), (14, _), (15, _), (16, _), (17, _), (18, _), (19, _), (20, _)]) (Sub.cons rfl (Sub.cons rfl (Sub.cons rfl (Sub.cons rfl (Sub.cons rfl (Sub.cons rfl (Sub.cons rfl (Sub.cons rfl (Sub.cons rfl (Sub.nil _)))))))))) ?_
    refine TC.seq ?_
    refine TC.region ?_
    first
      | refine TL.val rfl rfl (Nat.le_of_ble_eq_true rfl) (Val.loadAgg 0 rfl ag61 sz61 rfl rfl rfl) ?_
      | refine TL.val rfl rfl (Nat.le_of_ble_eq_true rfl) (Val.loadAgg 1 rfl ag61 sz61 rfl rfl rfl) ?_
      | refine TL.val rfl rfl (Nat.le_of_ble_eq_true rfl) (Val.loadAgg 2 rfl ag61 sz61 rfl rfl rfl) ?_
      | refine TL.val rfl rfl (Nat.le_of_ble_eq_true rfl) (Val.loadAgg 3 rfl ag61 sz61 rfl rfl rfl) ?_
      | refine TL.val rfl rfl (Nat.le_of_ble_eq_true rfl) (Val.loadAgg 4 rfl ag61 sz61 rfl rfl rfl) ?_
      | refine TL.val rfl rfl (Nat.le_of_ble_eq_true rfl) (Val.loadAgg 5 rfl ag61 sz61 rfl rfl rfl) ?_
      | refine TL.val rfl rfl (Nat.le_of_ble_eq_true rfl) (Val.loadAgg 6 rfl ag61 sz61 rfl rfl rfl) ?_
      | refine TL.val rfl rfl (Nat.le_of_ble_eq_true rfl) (Val.loadAgg 7 rfl ag61 sz61 rfl rfl rfl) ?_
      | refine TL.val rfl rfl (Nat.le_of_ble_eq_true rfl) (Val.loadAgg 8 rfl ag61 sz61 rfl rfl rfl) ?_
      | refine TL.val rfl rfl (Nat.le_of_ble_eq_true rfl) (Val.loadAgg 9 rfl ag61 sz61 rfl rfl rfl) ?_
    refine TL.does (some 72) rfl rfl rfl (Does.callF go38 rfl (wPut_fn ⟨1, ((k : Nat) : Int), 0, 1, ep, va, 0⟩ _ hm)) ?_
    rintro _ _ ⟨bP, cP, spP, rfl, hcP, rfl⟩
    refine TL.val rfl rfl (Nat.le_of_ble_eq_true rfl) (Val.move rfl) ?_
    refine TL.val rfl rfl (Nat.le_of_ble_eq_true rfl) (Val.extract rfl rfl) ?_
    refine TL.val rfl rfl (Nat.le_of_ble_eq_true rfl) (Val.extract rfl rfl) ?_
    refine TL.val rfl rfl (Nat.le_of_ble_eq_true rfl) (Val.assign rfl) ?_
    refine TL.val rfl rfl (Nat.le_of_ble_eq_true rfl) (Val.assign rfl) ?_
    refine TL.nil ?_
    refine AtX.then ?_
    refine TC.env (E' := [(12, _), (13, _), (14, _), (15, _), (16, _), (17, _), (18, _), (19, _), (20, _), (21, _), (22, _)]) (Sub.cons rfl (Sub.cons rfl (Sub.cons rfl (Sub.cons rfl (Sub.cons rfl (Sub.cons rfl (Sub.cons rfl (Sub.cons rfl (Sub.cons rfl (Sub.cons rfl (Sub.cons rfl (Sub.nil _)))))))))))) ?_
    refine TC.seq ?_
    refine TC.seq ?_
    refine TC.heap (M' := gateO gb cf rb (some ⟨nb, 0, none⟩) N cn (some ⟨ob, 0, none⟩) N co 0 :: ringO rb cf.seed lb N cf.grace 0 :: (lb, row 161 ((List.replicate N (⟨0, 0⟩ : On)).flatMap On.cs)) :: (nb, row 118 (nws.map pp ++ sn)) :: (ob, row 118 (ols.map pp ++ so)) :: ((bP, row 5 (bv (putM ⟨1, ((k : Nat) : Int), 0, 1, ep, va, 0⟩) ++ spP)) :: (bE, row 5 (bv (sealB (macKey cf.seed rb_ rg_) ⟨1, ((k : Nat) : Int), 0, 1, ep, va, 0⟩) ++ spE)) :: (bm, .cells #[.int .i64 1, .int .i64 ((k : Nat) : Int), .int .i64 0, .int .i64 1, .int .i64 ep, .int .i64 va, .int .i64 0] 61 (0, 0)) :: (b2, .cells #[.int .i64 (cf.n), .int .i64 (cf.f), .int .i64 (cf.m), .int .i64 (cf.quorum), .int .i64 (cf.fresh), .int .i64 (cf.grace), .int .i64 (cf.window), .int .i64 (cf.t0), .int .i64 (cf.t1), .int .i64 (cf.t2), .int .i64 (cf.t3), .int .i64 (cf.tol), .int .i64 (cf.min), .int .i64 (cf.max), .int .i64 (cf.calmup), .int .i64 (cf.calmdown), .int .i64 (cf.podsup), .int .i64 (cf.pctup), .int .i64 (cf.podsdown), .int .i64 (cf.pctdown), .int .i64 (cf.period), .int .i64 (cf.far), .int .i64 (cf.strikes), .int .i64 (cf.probe), .int .i64 (cf.sectors), .int .u64 (cf.seed)] 26 (0, 0)) :: ((nws.map fun p => repO p cf.window 0 0 0) ++ ((ols.map fun p => repO p cf.window 0 0 0) ++ M)))) (fun w h => ro_mv (A := [_, _]) (L := [_, _, _, _, _]) w h) ?_
    refine TC.region ?_
    refine TL.val rfl rfl (Nat.le_of_ble_eq_true rfl) (Val.move rfl) ?_
    refine TL.val rfl rfl (Nat.le_of_ble_eq_true rfl) (Val.neqI rfl rfl) ?_
    refine TL.val rfl rfl (Nat.le_of_ble_eq_true rfl) (Val.move rfl) ?_
    refine TL.gen (fun g7 hg7 => ?_)
    refine TL.gval rfl rfl (Nat.le_of_ble_eq_true rfl) rfl (Nat.le_of_ble_eq_true rfl) rfl (fun hg => by subst hg; exact (Val.move rfl)) ?_
    refine TL.gval rfl rfl (Nat.le_of_ble_eq_true rfl) rfl (Nat.le_of_ble_eq_true rfl) rfl (fun hg => by subst hg; exact (Val.neqI rfl rfl)) ?_
    first
      | refine TL.val rfl rfl (Nat.le_of_ble_eq_true rfl) (Val.pickAnd rfl rfl rfl) ?_
      | refine TL.val rfl rfl (Nat.le_of_ble_eq_true rfl) (Val.pickOr rfl rfl rfl) ?_
      | refine TL.val rfl rfl (Nat.le_of_ble_eq_true rfl) (Val.pick rfl rfl rfl) ?_
    refine TL.nil ?_
    refine AtX.then ?_
    refine TC.env (E' := [(12, _), (13, _), (14, _), (15, _), (16, _), (17, _), (18, _), (19, _), (21, _), (80, _)]) (Sub.cons rfl (Sub.cons rfl (Sub.cons rfl (Sub.cons rfl (Sub.cons rfl (Sub.cons rfl (Sub.cons rfl (Sub.cons rfl (Sub.cons rfl (Sub.cons rfl (Sub.nil _))))))))))) ?_
    first | refine TC.condP rfl (fun c2 => ?_) (fun c2 => ?_) | refine TC.condN rfl (fun c2 => ?_) (fun c2 => ?_) | refine TC.condB rfl (fun c2 => ?_) (fun c2 => ?_) | refine TC.cond rfl (fun c2 => ?_) (fun c2 => ?_)
    · skip
      (exfalso; simp_all)
    · skip
      refine TC.env (E' := [(12, _), (13, _), (14, _), (15, _), (16, _), (17, _), (18, _), (19, _), (21, _)]) (Sub.cons rfl (Sub.cons rfl (Sub.cons rfl (Sub.cons rfl (Sub.cons rfl (Sub.cons rfl (Sub.cons rfl (Sub.cons rfl (Sub.cons rfl (Sub.nil _)))))))))) ?_
      refine TC.skip ?_
      refine AtX.then ?_
      refine TC.env (E' := [(12, _), (13, _), (14, _), (15, _), (16, _), (17, _), (18, _), (19, _), (21, _)]) (Sub.cons rfl (Sub.cons rfl (Sub.cons rfl (Sub.cons rfl (Sub.cons rfl (Sub.cons rfl (Sub.cons rfl (Sub.cons rfl (Sub.cons rfl (Sub.nil _)))))))))) ?_
      refine TC.seq ?_
      obtain ⟨sm, hsm⟩ : ∃ sm, sm = decide (bitsOf .or .u64 (xor64 (tagOf (macKey cf.seed rb_ rg_) (putM ⟨1, ((k : Nat) : Int), 0, 1, ep, va, 0⟩)).a (tagOf (macKey cf.seed ((k : Nat) : Int) 0) (putM ⟨1, ((k : Nat) : Int), 0, 1, ep, va, 0⟩)).a) (xor64 (tagOf (macKey cf.seed rb_ rg_) (putM ⟨1, ((k : Nat) : Int), 0, 1, ep, va, 0⟩)).b (tagOf (macKey cf.seed ((k : Nat) : Int) 0) (putM ⟨1, ((k : Nat) : Int), 0, 1, ep, va, 0⟩)).b) = 0) := ⟨_, rfl⟩
      refine TC.drawLM mixed 15 ?_
      refine TA.tk 0 1 rfl rfl rfl (Val.fieldAddr rfl fl26_22 sz24 rfl) ?_
      refine TA.tk 1 3 rfl rfl rfl (Val.load 8 rfl ag24 rfl rfl) ?_
      refine TA.tk 2 7 rfl rfl rfl (Val.move rfl) ?_
      refine TA.tk 3 15 rfl rfl rfl (Val.move rfl) ?_
      refine TA.tk 5 47 rfl rfl rfl (Val.move rfl) ?_
      refine TA.tk 7 175 rfl rfl rfl (Val.fieldAddr rfl fl26_22 sz24 rfl) ?_
      refine TA.tk 8 431 rfl rfl rfl (Val.load 8 rfl ag24 rfl rfl) ?_
      refine TA.tk 9 943 rfl rfl rfl (Val.move rfl) ?_
      refine TA.tk 11 2991 rfl rfl rfl (Val.move rfl) ?_
      refine TA.one 4 (by kernel_rfl) ?_
      refine TO.dz 3007 (some 85) rfl rfl rfl rfl (Does.callF go37 rfl (Of_fn _ _ _ _)) ?_
      rintro _ _ ⟨rfl, rfl⟩
      refine roK ?_
      refine TA.one 6 (by kernel_rfl) ?_
      refine TO.dz 3071 (some 87) rfl rfl rfl rfl (Does.callF go40 rfl (Tag_fn (macKey cf.seed rb_ rg_) (putM ⟨1, ((k : Nat) : Int), 0, 1, ep, va, 0⟩) _ _ _ _ (rd_all (i := 5) (sp := spP) rfl) (by simp) (by simp))) ?_
      rintro _ _ ⟨rfl, rfl⟩
      refine roK ?_
      refine TA.one 10 (by kernel_rfl) ?_
      refine TO.dz 4095 (some 91) rfl rfl rfl rfl (Does.callF go37 rfl (Of_fn _ _ _ _)) ?_
      rintro _ _ ⟨rfl, rfl⟩
      refine roK ?_
      refine TA.one 12 (by kernel_rfl) ?_
      refine TO.dz 8191 (some 93) rfl rfl rfl rfl (Does.callF go40 rfl (Tag_fn (macKey cf.seed ((k : Nat) : Int) 0) (putM ⟨1, ((k : Nat) : Int), 0, 1, ep, va, 0⟩) _ _ _ _ (rd_all (i := 5) (sp := spP) rfl) (by simp) (by simp))) ?_
      rintro _ _ ⟨rfl, rfl⟩
      refine roK ?_
      refine TA.one 13 (by kernel_rfl) ?_
      refine TO.dz 16383 (some 94) rfl rfl rfl rfl (Does.callF go39 rfl ((Same_fn (tagOf (macKey cf.seed rb_ rg_) (putM ⟨1, ((k : Nat) : Int), 0, 1, ep, va, 0⟩)) (tagOf (macKey cf.seed ((k : Nat) : Int) 0) (putM ⟨1, ((k : Nat) : Int), 0, 1, ep, va, 0⟩)) _).mono (R' := fun v M' => v = .bool sm ∧ (gateO gb cf rb (some ⟨nb, 0, none⟩) N cn (some ⟨ob, 0, none⟩) N co 0 :: ringO rb cf.seed lb N cf.grace 0 :: (lb, row 161 ((List.replicate N (⟨0, 0⟩ : On)).flatMap On.cs)) :: (nb, row 118 (nws.map pp ++ sn)) :: (ob, row 118 (ols.map pp ++ so)) :: ((bP, row 5 (bv (putM ⟨1, ((k : Nat) : Int), 0, 1, ep, va, 0⟩) ++ spP)) :: (bE, row 5 (bv (sealB (macKey cf.seed rb_ rg_) ⟨1, ((k : Nat) : Int), 0, 1, ep, va, 0⟩) ++ spE)) :: (bm, .cells #[.int .i64 1, .int .i64 ((k : Nat) : Int), .int .i64 0, .int .i64 1, .int .i64 ep, .int .i64 va, .int .i64 0] 61 (0, 0)) :: (b2, .cells #[.int .i64 (cf.n), .int .i64 (cf.f), .int .i64 (cf.m), .int .i64 (cf.quorum), .int .i64 (cf.fresh), .int .i64 (cf.grace), .int .i64 (cf.window), .int .i64 (cf.t0), .int .i64 (cf.t1), .int .i64 (cf.t2), .int .i64 (cf.t3), .int .i64 (cf.tol), .int .i64 (cf.min), .int .i64 (cf.max), .int .i64 (cf.calmup), .int .i64 (cf.calmdown), .int .i64 (cf.podsup), .int .i64 (cf.pctup), .int .i64 (cf.podsdown), .int .i64 (cf.pctdown), .int .i64 (cf.period), .int .i64 (cf.far), .int .i64 (cf.strikes), .int .i64 (cf.probe), .int .i64 (cf.sectors), .int .u64 (cf.seed)] 26 (0, 0)) :: ((nws.map fun p => repO p cf.window 0 0 0) ++ ((ols.map fun p => repO p cf.window 0 0 0) ++ M)))) = M') (fun v M' h => ⟨by rw [hsm]; exact h.1, h.2⟩))) ?_
      rintro _ _ ⟨rfl, rfl⟩
      refine roK ?_
      refine TA.tk 14 32767 rfl rfl rfl (Val.assign rfl) ?_
      refine TA.done (by kernel_rfl) ?_
      refine AtX.then ?_
      refine TC.env (E' := [(12, _), (14, _), (15, _), (16, _), (17, _), (18, _), (19, _), (23, _)]) (Sub.cons rfl (Sub.cons rfl (Sub.cons rfl (Sub.cons rfl (Sub.cons rfl (Sub.cons rfl (Sub.cons rfl (Sub.cons rfl (Sub.nil _))))))))) ?_
      refine TC.seq ?_
      have hrep : ((bP, row 5 (bv (putM ⟨1, ((k : Nat) : Int), 0, 1, ep, va, 0⟩) ++ spP)) :: (bE, row 5 (bv (sealB (macKey cf.seed rb_ rg_) ⟨1, ((k : Nat) : Int), 0, 1, ep, va, 0⟩) ++ spE)) :: (bm, .cells #[.int .i64 1, .int .i64 ((k : Nat) : Int), .int .i64 0, .int .i64 1, .int .i64 ep, .int .i64 va, .int .i64 0] 61 (0, 0)) :: (b2, .cells #[.int .i64 (cf.n), .int .i64 (cf.f), .int .i64 (cf.m), .int .i64 (cf.quorum), .int .i64 (cf.fresh), .int .i64 (cf.grace), .int .i64 (cf.window), .int .i64 (cf.t0), .int .i64 (cf.t1), .int .i64 (cf.t2), .int .i64 (cf.t3), .int .i64 (cf.tol), .int .i64 (cf.min), .int .i64 (cf.max), .int .i64 (cf.calmup), .int .i64 (cf.calmdown), .int .i64 (cf.podsup), .int .i64 (cf.pctup), .int .i64 (cf.podsdown), .int .i64 (cf.pctdown), .int .i64 (cf.period), .int .i64 (cf.far), .int .i64 (cf.strikes), .int .i64 (cf.probe), .int .i64 (cf.sectors), .int .u64 (cf.seed)] 26 (0, 0)) :: ((nws.map fun p => repO p cf.window 0 0 0) ++ ((ols.map fun p => repO p cf.window 0 0 0) ++ M)))[k + 4]? = some (repO (if sgen 1 0 = (⟨0, 0⟩ : On).gen then p else p2) cf.window 0 0 0) := by show (((nws.map fun p => repO p cf.window 0 0 0) ++ ((ols.map fun p => repO p cf.window 0 0 0) ++ M)))[k]? = _; rw [List.getElem?_append_left (by simp; omega), List.getElem?_map, hp]; rfl
      refine TC.region ?_
      refine TL.val rfl rfl (Nat.le_of_ble_eq_true rfl) (Val.move rfl) ?_
      refine TL.val rfl rfl (Nat.le_of_ble_eq_true rfl) (Val.move rfl) ?_
      refine TL.does (some 98) rfl rfl rfl (Does.callF go32 rfl ((Check_nil gb rb lb nb cn ob co sn so cf N 0 0 (List.replicate N (⟨0, 0⟩ : On)) nws ols ((bP, row 5 (bv (putM ⟨1, ((k : Nat) : Int), 0, 1, ep, va, 0⟩) ++ spP)) :: (bE, row 5 (bv (sealB (macKey cf.seed rb_ rg_) ⟨1, ((k : Nat) : Int), 0, 1, ep, va, 0⟩) ++ spE)) :: (bm, .cells #[.int .i64 1, .int .i64 ((k : Nat) : Int), .int .i64 0, .int .i64 1, .int .i64 ep, .int .i64 va, .int .i64 0] 61 (0, 0)) :: (b2, .cells #[.int .i64 (cf.n), .int .i64 (cf.f), .int .i64 (cf.m), .int .i64 (cf.quorum), .int .i64 (cf.fresh), .int .i64 (cf.grace), .int .i64 (cf.window), .int .i64 (cf.t0), .int .i64 (cf.t1), .int .i64 (cf.t2), .int .i64 (cf.t3), .int .i64 (cf.tol), .int .i64 (cf.min), .int .i64 (cf.max), .int .i64 (cf.calmup), .int .i64 (cf.calmdown), .int .i64 (cf.podsup), .int .i64 (cf.pctup), .int .i64 (cf.podsdown), .int .i64 (cf.pctdown), .int .i64 (cf.period), .int .i64 (cf.far), .int .i64 (cf.strikes), .int .i64 (cf.probe), .int .i64 (cf.sectors), .int .u64 (cf.seed)] 26 (0, 0)) :: ((nws.map fun p => repO p cf.window 0 0 0) ++ ((ols.map fun p => repO p cf.window 0 0 0) ++ M))) hN (by simp) hnl hol hgrc ⟨by decide, by decide⟩ k ⟨0, 0⟩ hx0 ⟨by decide, by decide⟩ ⟨by decide, by decide⟩ 1 0 1 ep va 0 ⟨by decide, by decide⟩ (by decide) 0 hcf p p2 hp hp2 (k + 4) 0 0 0 ⟨by decide, by decide⟩ hrep ⟨by decide, by decide⟩ hm ⟨by decide, by decide⟩ (tagB (tagOf (macKey cf.seed rb_ rg_) (putM ⟨1, ((k : Nat) : Int), 0, 1, ep, va, 0⟩))) (some ⟨bE, 0, none⟩) cE (rd_all (i := 1) (sp := spE) rfl) (by omega) (by simp)).mono (R' := fun v M' => ∃ (q : Ms) (code ref2 : Int), v = .tuple #[.agg #[.int .i64 q.kind, .int .i64 q.who, .int .i64 q.gen, .int .i64 q.seq, .int .i64 q.epoch, .int .i64 q.value, .int .i64 q.metric], .int .i64 code] ∧ ((sm = true ∧ code = 0 ∧ q = ⟨1, ((k : Nat) : Int), 0, 1, ep, va, 0⟩) ∨ (sm = false ∧ code = 5)) ∧ M' = (gateO gb cf rb (some ⟨nb, 0, none⟩) N cn (some ⟨ob, 0, none⟩) N co ref2 :: ringO rb cf.seed lb N cf.grace (0 + 1) :: (lb, row 161 ((List.replicate N (⟨0, 0⟩ : On)).flatMap On.cs)) :: (nb, row 118 (nws.map pp ++ sn)) :: (ob, row 118 (ols.map pp ++ so)) :: ((bP, row 5 (bv (putM ⟨1, ((k : Nat) : Int), 0, 1, ep, va, 0⟩) ++ spP)) :: (bE, row 5 (bv (sealB (macKey cf.seed rb_ rg_) ⟨1, ((k : Nat) : Int), 0, 1, ep, va, 0⟩) ++ spE)) :: (bm, .cells #[.int .i64 1, .int .i64 ((k : Nat) : Int), .int .i64 0, .int .i64 1, .int .i64 ep, .int .i64 va, .int .i64 0] 61 (0, 0)) :: (b2, .cells #[.int .i64 (cf.n), .int .i64 (cf.f), .int .i64 (cf.m), .int .i64 (cf.quorum), .int .i64 (cf.fresh), .int .i64 (cf.grace), .int .i64 (cf.window), .int .i64 (cf.t0), .int .i64 (cf.t1), .int .i64 (cf.t2), .int .i64 (cf.t3), .int .i64 (cf.tol), .int .i64 (cf.min), .int .i64 (cf.max), .int .i64 (cf.calmup), .int .i64 (cf.calmdown), .int .i64 (cf.podsup), .int .i64 (cf.pctup), .int .i64 (cf.podsdown), .int .i64 (cf.pctdown), .int .i64 (cf.period), .int .i64 (cf.far), .int .i64 (cf.strikes), .int .i64 (cf.probe), .int .i64 (cf.sectors), .int .u64 (cf.seed)] 26 (0, 0)) :: ((nws.map fun p => repO p cf.window 0 0 0) ++ ((ols.map fun p => repO p cf.window 0 0 0) ++ M))))) (fun v M' h => by
          have hok1 : okK ⟨0, 0⟩ (sgen 1 0) 0 cf.grace = true := rfl
          rw [if_pos hok1] at h
          rw [show sgen 1 0 = 0 from rfl] at h
          rw [same_sym (tagOf_bd (macKey cf.seed rb_ rg_) (putM ⟨1, ((k : Nat) : Int), 0, 1, ep, va, 0⟩)) (tagOf_bd (macKey cf.seed ((k : Nat) : Int) 0) (putM ⟨1, ((k : Nat) : Int), 0, 1, ep, va, 0⟩)), ← hsm] at h
          cases sm with
          | true =>
            have hc : chkC (okK ⟨0, 0⟩ 0 0 cf.grace) true (mayP cf.window 0 0 1) (decide (ep < 0) || decide (cf.fresh ≤ IntKind.u64.wrap (ep - 0))) (decide ((0 : Int) < cf.m)) = 0 := chk0 rfl rfl (may0 hwin) (stale1 hepb hfr.2) (decide_eq_true (by omega))
            rcases h with ⟨h1, h2, h3⟩ | ⟨h1, h2, h3⟩
            · exact ⟨⟨1, ((k : Nat) : Int), 0, 1, ep, va, 0⟩, 0, 0, h2, .inl ⟨rfl, rfl, rfl⟩, h3⟩
            · exact absurd hc h1
          | false =>
            have hc : chkC (okK ⟨0, 0⟩ 0 0 cf.grace) false (mayP cf.window 0 0 1) (decide (ep < 0) || decide (cf.fresh ≤ IntKind.u64.wrap (ep - 0))) (decide ((0 : Int) < cf.m)) = 5 := chk5 rfl rfl
            rcases h with ⟨h1, h2, h3⟩ | ⟨h1, h2, h3⟩
            · exact absurd (hc.symm.trans h1) (by decide)
            · exact ⟨msZ, 5, _, by rw [hc] at h2; exact h2, .inr ⟨rfl, rfl⟩, h3⟩))) ?_
      rintro _ _ ⟨q, code, ref2, rfl, hq, rfl⟩
      refine TL.val rfl rfl (Nat.le_of_ble_eq_true rfl) (Val.move rfl) ?_
      refine TL.val rfl rfl (Nat.le_of_ble_eq_true rfl) (Val.extract rfl rfl) ?_
      refine TL.val rfl rfl (Nat.le_of_ble_eq_true rfl) (Val.extract rfl rfl) ?_
      refine TL.does (some 24) rfl rfl rfl (Does.alloc ze61 rfl) ?_
      rintro _ _ ⟨b14, rfl, rfl⟩
      first
        | refine TL.does none rfl rfl rfl (Does.store (i := 0) rfl rfl rfl sz61 rfl rfl (by first | exact Nat.le_of_ble_eq_true rfl | decide | omega) rfl rfl) ?_
        | refine TL.does none rfl rfl rfl (Does.store (i := 1) rfl rfl rfl sz61 rfl rfl (by first | exact Nat.le_of_ble_eq_true rfl | decide | omega) rfl rfl) ?_
        | refine TL.does none rfl rfl rfl (Does.store (i := 2) rfl rfl rfl sz61 rfl rfl (by first | exact Nat.le_of_ble_eq_true rfl | decide | omega) rfl rfl) ?_
        | refine TL.does none rfl rfl rfl (Does.store (i := 3) rfl rfl rfl sz61 rfl rfl (by first | exact Nat.le_of_ble_eq_true rfl | decide | omega) rfl rfl) ?_
        | refine TL.does none rfl rfl rfl (Does.store (i := 4) rfl rfl rfl sz61 rfl rfl (by first | exact Nat.le_of_ble_eq_true rfl | decide | omega) rfl rfl) ?_
        | refine TL.does none rfl rfl rfl (Does.store (i := 5) rfl rfl rfl sz61 rfl rfl (by first | exact Nat.le_of_ble_eq_true rfl | decide | omega) rfl rfl) ?_
        | refine TL.does none rfl rfl rfl (Does.store (i := 6) rfl rfl rfl sz61 rfl rfl (by first | exact Nat.le_of_ble_eq_true rfl | decide | omega) rfl rfl) ?_
        | refine TL.does none rfl rfl rfl (Does.store (i := 7) rfl rfl rfl sz61 rfl rfl (by first | exact Nat.le_of_ble_eq_true rfl | decide | omega) rfl rfl) ?_
        | refine TL.does none rfl rfl rfl (Does.store (i := 8) rfl rfl rfl sz61 rfl rfl (by first | exact Nat.le_of_ble_eq_true rfl | decide | omega) rfl rfl) ?_
        | refine TL.does none rfl rfl rfl (Does.store (i := 9) rfl rfl rfl sz61 rfl rfl (by first | exact Nat.le_of_ble_eq_true rfl | decide | omega) rfl rfl) ?_
      rintro _ _ ⟨rfl, rfl⟩
      refine TL.val rfl rfl (Nat.le_of_ble_eq_true rfl) (Val.assign rfl) ?_
      refine TL.nil ?_
      refine AtX.then ?_
      refine TC.env (E' := [(12, _), (15, _), (16, _), (17, _), (18, _), (23, _), (24, _), (25, _)]) (Sub.cons rfl (Sub.cons rfl (Sub.cons rfl (Sub.cons rfl (Sub.cons rfl (Sub.cons rfl (Sub.cons rfl (Sub.cons rfl (Sub.nil _))))))))) ?_
      refine TC.seq ?_
      refine TC.seq ?_
      refine TC.region ?_
      refine TL.val rfl rfl (Nat.le_of_ble_eq_true rfl) (Val.move rfl) ?_
      refine TL.val rfl rfl (Nat.le_of_ble_eq_true rfl) (Val.move rfl) ?_
      refine TL.val rfl rfl (Nat.le_of_ble_eq_true rfl) (Val.eqlI rfl rfl) ?_
      refine TL.val rfl rfl (Nat.le_of_ble_eq_true rfl) (Val.move rfl) ?_
      refine TL.gen (fun g15 hg15 => ?_)
      refine TL.gval rfl rfl (Nat.le_of_ble_eq_true rfl) rfl (Nat.le_of_ble_eq_true rfl) rfl (fun hg => by subst hg; exact (Val.move rfl)) ?_
      refine TL.gval rfl rfl (Nat.le_of_ble_eq_true rfl) rfl (Nat.le_of_ble_eq_true rfl) rfl (fun hg => by subst hg; exact (Val.eqlI rfl rfl)) ?_
      first
        | refine TL.val rfl rfl (Nat.le_of_ble_eq_true rfl) (Val.pickAnd rfl rfl rfl) ?_
        | refine TL.val rfl rfl (Nat.le_of_ble_eq_true rfl) (Val.pickOr rfl rfl rfl) ?_
        | refine TL.val rfl rfl (Nat.le_of_ble_eq_true rfl) (Val.pick rfl rfl rfl) ?_
      refine TL.nil ?_
      refine AtX.then ?_
      refine TC.env (E' := [(12, _), (18, _), (23, _), (24, _), (25, _), (107, _)]) (Sub.cons rfl (Sub.cons rfl (Sub.cons rfl (Sub.cons rfl (Sub.cons rfl (Sub.cons rfl (Sub.nil _))))))) ?_
      first | refine TC.condP rfl (fun c3 => ?_) (fun c3 => ?_) | refine TC.condN rfl (fun c3 => ?_) (fun c3 => ?_) | refine TC.condB rfl (fun c3 => ?_) (fun c3 => ?_) | refine TC.cond rfl (fun c3 => ?_) (fun c3 => ?_)
      · skip
        refine TC.env (E' := [(12, _), (18, _), (23, _), (24, _), (25, _)]) (Sub.cons rfl (Sub.cons rfl (Sub.cons rfl (Sub.cons rfl (Sub.cons rfl (Sub.nil _)))))) ?_
        refine TC.seq ?_
        have hbw : rb_ = ((k : Nat) : Int) ∧ rg_ = 0 := by simp at c3; exact ⟨of_decide_eq_true (hg15.symm.trans c3.1), c3.2⟩
        have hs : sm = true := by rw [hsm, hbw.1, hbw.2]; exact decide_eq_true (same_self (tagOf_bd _ _))
        have hc0 : code = 0 := by rcases hq with ⟨_, h, _⟩ | ⟨h, _⟩; exact h; rw [hs] at h; cases h
        have hq3 : q = ⟨1, ((k : Nat) : Int), 0, 1, ep, va, 0⟩ := by rcases hq with ⟨_, _, h⟩ | ⟨h, _⟩; exact h; rw [hs] at h; cases h
        refine TC.region ?_
        refine TL.does (some 108) rfl rfl rfl (Does.callF go35 rfl (told8_fn _)) ?_
        rintro _ _ ⟨rfl, rfl⟩
        refine TL.val rfl rfl (Nat.le_of_ble_eq_true rfl) (Val.move rfl) ?_
        refine TL.valYes rfl rfl (Nat.le_of_ble_eq_true rfl) rfl (Nat.le_of_ble_eq_true rfl) rfl (Val.same (v' := .bool true) (Val.move rfl) (congrArg Value.bool hs)) ?_
        first
          | refine TL.val rfl rfl (Nat.le_of_ble_eq_true rfl) (Val.same (v' := .bool true) (Val.pickAnd rfl rfl rfl) (rfl)) ?_
          | refine TL.val rfl rfl (Nat.le_of_ble_eq_true rfl) (Val.same (v' := .bool true) (Val.pickOr rfl rfl rfl) (rfl)) ?_
          | refine TL.val rfl rfl (Nat.le_of_ble_eq_true rfl) (Val.same (v' := .bool true) (Val.pick rfl rfl rfl) (rfl)) ?_
        refine TL.val rfl rfl (Nat.le_of_ble_eq_true rfl) (Val.move rfl) ?_
        refine TL.valYes rfl rfl (Nat.le_of_ble_eq_true rfl) rfl (Nat.le_of_ble_eq_true rfl) rfl (Val.move rfl) ?_
        refine TL.valYes rfl rfl (Nat.le_of_ble_eq_true rfl) rfl (Nat.le_of_ble_eq_true rfl) rfl (Val.same (v' := .bool true) (Val.eqlI rfl rfl) (congrArg Value.bool (decide_eq_true hc0))) ?_
        first
          | refine TL.val rfl rfl (Nat.le_of_ble_eq_true rfl) (Val.same (v' := .bool true) (Val.pickAnd rfl rfl rfl) (rfl)) ?_
          | refine TL.val rfl rfl (Nat.le_of_ble_eq_true rfl) (Val.same (v' := .bool true) (Val.pickOr rfl rfl rfl) (rfl)) ?_
          | refine TL.val rfl rfl (Nat.le_of_ble_eq_true rfl) (Val.same (v' := .bool true) (Val.pick rfl rfl rfl) (rfl)) ?_
        refine TL.val rfl rfl (Nat.le_of_ble_eq_true rfl) (Val.move rfl) ?_
        first
          | refine TL.valYes rfl rfl (Nat.le_of_ble_eq_true rfl) rfl (Nat.le_of_ble_eq_true rfl) rfl (Val.loadAgg 0 rfl ag61 sz61 rfl rfl rfl) ?_
          | refine TL.valYes rfl rfl (Nat.le_of_ble_eq_true rfl) rfl (Nat.le_of_ble_eq_true rfl) rfl (Val.loadAgg 1 rfl ag61 sz61 rfl rfl rfl) ?_
          | refine TL.valYes rfl rfl (Nat.le_of_ble_eq_true rfl) rfl (Nat.le_of_ble_eq_true rfl) rfl (Val.loadAgg 2 rfl ag61 sz61 rfl rfl rfl) ?_
          | refine TL.valYes rfl rfl (Nat.le_of_ble_eq_true rfl) rfl (Nat.le_of_ble_eq_true rfl) rfl (Val.loadAgg 3 rfl ag61 sz61 rfl rfl rfl) ?_
          | refine TL.valYes rfl rfl (Nat.le_of_ble_eq_true rfl) rfl (Nat.le_of_ble_eq_true rfl) rfl (Val.loadAgg 4 rfl ag61 sz61 rfl rfl rfl) ?_
          | refine TL.valYes rfl rfl (Nat.le_of_ble_eq_true rfl) rfl (Nat.le_of_ble_eq_true rfl) rfl (Val.loadAgg 5 rfl ag61 sz61 rfl rfl rfl) ?_
          | refine TL.valYes rfl rfl (Nat.le_of_ble_eq_true rfl) rfl (Nat.le_of_ble_eq_true rfl) rfl (Val.loadAgg 6 rfl ag61 sz61 rfl rfl rfl) ?_
          | refine TL.valYes rfl rfl (Nat.le_of_ble_eq_true rfl) rfl (Nat.le_of_ble_eq_true rfl) rfl (Val.loadAgg 7 rfl ag61 sz61 rfl rfl rfl) ?_
          | refine TL.valYes rfl rfl (Nat.le_of_ble_eq_true rfl) rfl (Nat.le_of_ble_eq_true rfl) rfl (Val.loadAgg 8 rfl ag61 sz61 rfl rfl rfl) ?_
          | refine TL.valYes rfl rfl (Nat.le_of_ble_eq_true rfl) rfl (Nat.le_of_ble_eq_true rfl) rfl (Val.loadAgg 9 rfl ag61 sz61 rfl rfl rfl) ?_
        first
          | refine TL.valYes rfl rfl (Nat.le_of_ble_eq_true rfl) rfl (Nat.le_of_ble_eq_true rfl) rfl (Val.loadAgg 0 rfl ag61 sz61 rfl rfl rfl) ?_
          | refine TL.valYes rfl rfl (Nat.le_of_ble_eq_true rfl) rfl (Nat.le_of_ble_eq_true rfl) rfl (Val.loadAgg 1 rfl ag61 sz61 rfl rfl rfl) ?_
          | refine TL.valYes rfl rfl (Nat.le_of_ble_eq_true rfl) rfl (Nat.le_of_ble_eq_true rfl) rfl (Val.loadAgg 2 rfl ag61 sz61 rfl rfl rfl) ?_
          | refine TL.valYes rfl rfl (Nat.le_of_ble_eq_true rfl) rfl (Nat.le_of_ble_eq_true rfl) rfl (Val.loadAgg 3 rfl ag61 sz61 rfl rfl rfl) ?_
          | refine TL.valYes rfl rfl (Nat.le_of_ble_eq_true rfl) rfl (Nat.le_of_ble_eq_true rfl) rfl (Val.loadAgg 4 rfl ag61 sz61 rfl rfl rfl) ?_
          | refine TL.valYes rfl rfl (Nat.le_of_ble_eq_true rfl) rfl (Nat.le_of_ble_eq_true rfl) rfl (Val.loadAgg 5 rfl ag61 sz61 rfl rfl rfl) ?_
          | refine TL.valYes rfl rfl (Nat.le_of_ble_eq_true rfl) rfl (Nat.le_of_ble_eq_true rfl) rfl (Val.loadAgg 6 rfl ag61 sz61 rfl rfl rfl) ?_
          | refine TL.valYes rfl rfl (Nat.le_of_ble_eq_true rfl) rfl (Nat.le_of_ble_eq_true rfl) rfl (Val.loadAgg 7 rfl ag61 sz61 rfl rfl rfl) ?_
          | refine TL.valYes rfl rfl (Nat.le_of_ble_eq_true rfl) rfl (Nat.le_of_ble_eq_true rfl) rfl (Val.loadAgg 8 rfl ag61 sz61 rfl rfl rfl) ?_
          | refine TL.valYes rfl rfl (Nat.le_of_ble_eq_true rfl) rfl (Nat.le_of_ble_eq_true rfl) rfl (Val.loadAgg 9 rfl ag61 sz61 rfl rfl rfl) ?_
        refine TL.valYes rfl rfl (Nat.le_of_ble_eq_true rfl) rfl (Nat.le_of_ble_eq_true rfl) rfl (Val.same (v' := .bool true) (Val.eqlMs (a := q) (b := ⟨1, ((k : Nat) : Int), 0, 1, ep, va, 0⟩) rfl rfl) (congrArg Value.bool (by rw [hq3]; exact eqbM_self _))) ?_
        first
          | refine TL.val rfl rfl (Nat.le_of_ble_eq_true rfl) (Val.same (v' := .bool true) (Val.pickAnd rfl rfl rfl) (rfl)) ?_
          | refine TL.val rfl rfl (Nat.le_of_ble_eq_true rfl) (Val.same (v' := .bool true) (Val.pickOr rfl rfl rfl) (rfl)) ?_
          | refine TL.val rfl rfl (Nat.le_of_ble_eq_true rfl) (Val.same (v' := .bool true) (Val.pick rfl rfl rfl) (rfl)) ?_
        refine TL.val rfl rfl (Nat.le_of_ble_eq_true rfl) (Val.assign rfl) ?_
        refine TL.nil ?_
        refine AtX.then ?_
        refine TC.env (E' := [(12, _), (23, _), (25, _)]) (Sub.cons rfl (Sub.cons rfl (Sub.cons rfl (Sub.nil _)))) ?_
        refine TC.ret1 (fn := Try.f7) (fun _ _ h => h) rfl (RV.tmp rfl) (M' := M) (by repeat (first | exact ro_refl | exact ro_pre | refine ro_tail ?_ | refine ro_app ?_)) ?_
        exact ⟨rfl, rfl⟩
      · skip
        refine TC.env (E' := [(12, _), (23, _), (25, _)]) (Sub.cons rfl (Sub.cons rfl (Sub.cons rfl (Sub.nil _)))) ?_
        refine TC.skip ?_
        refine AtX.then ?_
        refine TC.env (E' := [(12, _), (23, _), (25, _)]) (Sub.cons rfl (Sub.cons rfl (Sub.cons rfl (Sub.nil _)))) ?_
        refine TC.seq ?_
        refine TC.region ?_
        refine TL.does (some 121) rfl rfl rfl (Does.callF go35 rfl (told8_fn _)) ?_
        rintro _ _ ⟨rfl, rfl⟩
        refine TL.val rfl rfl (Nat.le_of_ble_eq_true rfl) (Val.move rfl) ?_
        refine TL.valYes rfl rfl (Nat.le_of_ble_eq_true rfl) rfl (Nat.le_of_ble_eq_true rfl) rfl (Val.move rfl) ?_
        refine TL.valYes rfl rfl (Nat.le_of_ble_eq_true rfl) rfl (Nat.le_of_ble_eq_true rfl) rfl (Val.eqlI rfl rfl) ?_
        refine TL.valYes rfl rfl (Nat.le_of_ble_eq_true rfl) rfl (Nat.le_of_ble_eq_true rfl) rfl (Val.move rfl) ?_
        refine TL.valYes rfl rfl (Nat.le_of_ble_eq_true rfl) rfl (Nat.le_of_ble_eq_true rfl) rfl (Val.same (v' := .bool true) (Val.eqlB rfl rfl un4) (congrArg Value.bool (by rcases hq with ⟨h, h2, _⟩ | ⟨h, h2⟩ <;> simp [h, h2]))) ?_
        first
          | refine TL.val rfl rfl (Nat.le_of_ble_eq_true rfl) (Val.same (v' := .bool true) (Val.pickAnd rfl rfl rfl) (rfl)) ?_
          | refine TL.val rfl rfl (Nat.le_of_ble_eq_true rfl) (Val.same (v' := .bool true) (Val.pickOr rfl rfl rfl) (rfl)) ?_
          | refine TL.val rfl rfl (Nat.le_of_ble_eq_true rfl) (Val.same (v' := .bool true) (Val.pick rfl rfl rfl) (rfl)) ?_
        refine TL.val rfl rfl (Nat.le_of_ble_eq_true rfl) (Val.move rfl) ?_
        refine TL.valYes rfl rfl (Nat.le_of_ble_eq_true rfl) rfl (Nat.le_of_ble_eq_true rfl) rfl (Val.move rfl) ?_
        refine TL.valYes rfl rfl (Nat.le_of_ble_eq_true rfl) rfl (Nat.le_of_ble_eq_true rfl) rfl (Val.eqlI rfl rfl) ?_
        refine TL.valYes rfl rfl (Nat.le_of_ble_eq_true rfl) rfl (Nat.le_of_ble_eq_true rfl) rfl (Val.move rfl) ?_
        refine TL.gen (fun gA hgA => ?_)
        refine TL.gval rfl rfl (Nat.le_of_ble_eq_true rfl) rfl (Nat.le_of_ble_eq_true rfl) rfl (fun hg => by subst hg; exact (Val.move rfl)) ?_
        refine TL.gval rfl rfl (Nat.le_of_ble_eq_true rfl) rfl (Nat.le_of_ble_eq_true rfl) rfl (fun hg => by subst hg; exact (Val.eqlI rfl rfl)) ?_
        first
          | refine TL.valYes rfl rfl (Nat.le_of_ble_eq_true rfl) rfl (Nat.le_of_ble_eq_true rfl) rfl (Val.same (v' := .bool true) (Val.pickAnd rfl rfl rfl) (congrArg Value.bool (by rcases hq with ⟨h, h2, _⟩ | ⟨h, h2⟩ <;> simp [hgA, h2]))) ?_
          | refine TL.valYes rfl rfl (Nat.le_of_ble_eq_true rfl) rfl (Nat.le_of_ble_eq_true rfl) rfl (Val.same (v' := .bool true) (Val.pickOr rfl rfl rfl) (congrArg Value.bool (by rcases hq with ⟨h, h2, _⟩ | ⟨h, h2⟩ <;> simp [hgA, h2]))) ?_
          | refine TL.valYes rfl rfl (Nat.le_of_ble_eq_true rfl) rfl (Nat.le_of_ble_eq_true rfl) rfl (Val.same (v' := .bool true) (Val.pick rfl rfl rfl) (congrArg Value.bool (by rcases hq with ⟨h, h2, _⟩ | ⟨h, h2⟩ <;> simp [hgA, h2]))) ?_
        first
          | refine TL.val rfl rfl (Nat.le_of_ble_eq_true rfl) (Val.same (v' := .bool true) (Val.pickAnd rfl rfl rfl) (rfl)) ?_
          | refine TL.val rfl rfl (Nat.le_of_ble_eq_true rfl) (Val.same (v' := .bool true) (Val.pickOr rfl rfl rfl) (rfl)) ?_
          | refine TL.val rfl rfl (Nat.le_of_ble_eq_true rfl) (Val.same (v' := .bool true) (Val.pick rfl rfl rfl) (rfl)) ?_
        refine TL.val rfl rfl (Nat.le_of_ble_eq_true rfl) (Val.assign rfl) ?_
        refine TL.nil ?_
        refine AtX.then ?_
        refine TC.env (E' := [(12, _)]) (Sub.cons rfl (Sub.nil _)) ?_
        refine TC.ret1 (fn := Try.f7) (fun _ _ h => h) rfl (RV.tmp rfl) (M' := M) (by repeat (first | exact ro_refl | exact ro_pre | refine ro_tail ?_ | refine ro_app ?_)) ?_
        exact ⟨rfl, rfl⟩

end Go.Proofs.Ytphoapajlcaoeaa
