/- Texts put together: A37. -/
import Derived.Test.YtphoapajlcaoeaaW3
import Derived.Test.YtphoapajlcaoeaaG1
/- walks -/
set_option linter.unusedVariables false
set_option linter.unusedSimpArgs false
set_option maxRecDepth 100000
set_option maxHeartbeats 4000000
namespace Go.Proofs.Ytphoapajlcaoeaa
open Go Go.X
theorem stale0 {f : Int} (h : 1 ≤ f) : (decide ((0 : Int) < 0) || decide (f ≤ IntKind.u64.wrap (0 - 0))) = false := by
  rw [decide_eq_false (by omega), decide_eq_false (by rw [w_u64 (by omega) (by omega)]; omega)]; rfl
theorem okOut {cf : Cf} {mx : Int} (h : OkC cf) (e : mx = (if (4 : Int) > cf.n then 4 else cf.n)) : OkC ⟨mx, 1, cf.m, 3, cf.fresh, cf.grace, cf.window, cf.t0, cf.t1, cf.t2, cf.t3, cf.tol, cf.min, cf.max, cf.calmup, cf.calmdown, cf.podsup, cf.pctup, cf.podsdown, cf.pctdown, cf.period, cf.far, cf.strikes, cf.probe, cf.sectors, cf.seed⟩ := by
  obtain ⟨h0, h1, h2, h3, h4, h5, h6, h7, h8, h9, h10, h11, h12, h13, h14, h15, h16, h17, h18, h19, h20, h21, h22, h23, h24, h25⟩ := h
  have hm : 4 ≤ mx ∧ mx ≤ 16 := by subst e; split <;> omega
  exact ⟨⟨by show 1 ≤ mx; omega, hm.2⟩, h1, h2, h3, h4, h5, h6, h7, h8, h9, h10, h11, h12, h13, h14, h15, h16, h17, h18, ⟨by show (0 : Int) ≤ 1; decide, by show 3 * 1 + 1 ≤ mx; omega⟩, ⟨by show 2 * 1 + 1 ≤ (3 : Int); decide, by show 3 ≤ mx; omega⟩, h21, h22, h23, h24, h25⟩
theorem ro_bx {z : World} {g r o n l b : Nat × Obj} {X Y M : Hp} : ∀ w, Own z w (g :: r :: o :: n :: l :: (X ++ (Y ++ (b :: M)))) → Own z w (g :: r :: o :: n :: l :: b :: (X ++ (Y ++ M))) := fun w h => by
  have h1 := ro_mv (A := g :: r :: o :: n :: l :: (X ++ Y)) (L := [b]) (R := M) w (by simpa using h)
  have h2 := ro_mv (A := [b]) (L := [g, r, o, n, l]) (R := X ++ (Y ++ M)) w (by simpa using h1)
  simpa using h2
/-- quorumite/quorumitelaw8.VerifyOut -/
theorem VerifyOut_fn (zs : List Int) (A : Option Addr) (n cA : Nat) (who : Int) (M : Hp) (hA : RdS M A (zs.map (Value.int .i64))) (hn : n = zs.length) : FnC Try.prog 9 #[.slice A n cA, .int .i64 who] M (fun v M' => v = .bool true ∧ M = M') := by
  refine FnC.intro Try.func9 rfl 82 rfl (by simp) (fun z => ?_)
  refine TC.env (E' := [(0, _), (1, _)]) (Sub.cons rfl (Sub.cons rfl (Sub.nil _))) ?_
  refine TC.seq ?_
  refine TC.region ?_
  refine TL.val rfl rfl (Nat.le_of_ble_eq_true rfl) (Val.assign rfl) ?_
  refine TL.nil ?_
  refine AtX.then ?_
  refine TC.seq ?_
  refine TC.region ?_
  refine TL.val rfl rfl (Nat.le_of_ble_eq_true rfl) (Val.move rfl) ?_
  refine TL.does (some 16) rfl rfl rfl (Does.callF go11 rfl (Fit_fn zs A n cA _ hA hn)) ?_
  rintro _ _ ⟨cf, rfl, hcf, rfl⟩
  refine TL.does (some 5) rfl rfl rfl (Does.alloc ze26 rfl) ?_
  rintro _ _ ⟨b2, rfl, rfl⟩
  refine TL.does none rfl rfl rfl (Does.storeR (ys' := [.int .i64 (cf.n), .int .i64 (cf.f), .int .i64 (cf.m), .int .i64 (cf.quorum), .int .i64 (cf.fresh), .int .i64 (cf.grace), .int .i64 (cf.window), .int .i64 (cf.t0), .int .i64 (cf.t1), .int .i64 (cf.t2), .int .i64 (cf.t3), .int .i64 (cf.tol), .int .i64 (cf.min), .int .i64 (cf.max), .int .i64 (cf.calmup), .int .i64 (cf.calmdown), .int .i64 (cf.podsup), .int .i64 (cf.pctup), .int .i64 (cf.podsdown), .int .i64 (cf.pctdown), .int .i64 (cf.period), .int .i64 (cf.far), .int .i64 (cf.strikes), .int .i64 (cf.probe), .int .i64 (cf.sectors), .int .u64 (cf.seed)]) 0 rfl rfl rfl sz26 rfl rfl (by exact Nat.le_of_ble_eq_true rfl) rfl) ?_
  rintro _ _ ⟨rfl, rfl⟩
  refine TL.nil ?_
  refine AtX.then ?_
  refine TC.env (E' := [(1, _), (4, _), (5, _)]) (Sub.cons rfl (Sub.cons rfl (Sub.cons rfl (Sub.nil _)))) ?_
  refine TC.seq ?_
  obtain ⟨mx, hmx⟩ : ∃ mx, mx = (if (4 : Int) > cf.n then 4 else cf.n) := ⟨_, rfl⟩
  refine TC.region ?_
  refine TL.val rfl rfl (Nat.le_of_ble_eq_true rfl) (Val.fieldAddr rfl fl26_0 sz3 rfl) ?_
  first
    | refine TL.val rfl rfl (Nat.le_of_ble_eq_true rfl) (Val.load 0 rfl ag3 rfl rfl) ?_
    | refine TL.val rfl rfl (Nat.le_of_ble_eq_true rfl) (Val.load 1 rfl ag3 rfl rfl) ?_
    | refine TL.val rfl rfl (Nat.le_of_ble_eq_true rfl) (Val.load 2 rfl ag3 rfl rfl) ?_
    | refine TL.val rfl rfl (Nat.le_of_ble_eq_true rfl) (Val.load 3 rfl ag3 rfl rfl) ?_
    | refine TL.val rfl rfl (Nat.le_of_ble_eq_true rfl) (Val.load 4 rfl ag3 rfl rfl) ?_
    | refine TL.val rfl rfl (Nat.le_of_ble_eq_true rfl) (Val.load 5 rfl ag3 rfl rfl) ?_
    | refine TL.val rfl rfl (Nat.le_of_ble_eq_true rfl) (Val.load 6 rfl ag3 rfl rfl) ?_
    | refine TL.val rfl rfl (Nat.le_of_ble_eq_true rfl) (Val.load 7 rfl ag3 rfl rfl) ?_
    | refine TL.val rfl rfl (Nat.le_of_ble_eq_true rfl) (Val.load 8 rfl ag3 rfl rfl) ?_
    | refine TL.val rfl rfl (Nat.le_of_ble_eq_true rfl) (Val.load 9 rfl ag3 rfl rfl) ?_
  refine TL.val rfl rfl (Nat.le_of_ble_eq_true rfl) (Val.max rfl rfl (r := mx) (by rw [hmx])) ?_
  refine TL.val rfl rfl (Nat.le_of_ble_eq_true rfl) (Val.fieldAddr rfl fl26_1 sz3 rfl) ?_
  refine TL.does none rfl rfl rfl (Does.storeR (ys' := [.int .i64 (cf.n), .int .i64 (1), .int .i64 (cf.m), .int .i64 (cf.quorum), .int .i64 (cf.fresh), .int .i64 (cf.grace), .int .i64 (cf.window), .int .i64 (cf.t0), .int .i64 (cf.t1), .int .i64 (cf.t2), .int .i64 (cf.t3), .int .i64 (cf.tol), .int .i64 (cf.min), .int .i64 (cf.max), .int .i64 (cf.calmup), .int .i64 (cf.calmdown), .int .i64 (cf.podsup), .int .i64 (cf.pctup), .int .i64 (cf.podsdown), .int .i64 (cf.pctdown), .int .i64 (cf.period), .int .i64 (cf.far), .int .i64 (cf.strikes), .int .i64 (cf.probe), .int .i64 (cf.sectors), .int .u64 (cf.seed)]) 0 rfl rfl rfl sz3 rfl rfl (by exact Nat.le_of_ble_eq_true rfl) rfl) ?_
  rintro _ _ ⟨rfl, rfl⟩
  refine TL.val rfl rfl (Nat.le_of_ble_eq_true rfl) (Val.fieldAddr rfl fl26_0 sz3 rfl) ?_
  refine TL.does none rfl rfl rfl (Does.storeR (ys' := [.int .i64 (mx), .int .i64 (1), .int .i64 (cf.m), .int .i64 (cf.quorum), .int .i64 (cf.fresh), .int .i64 (cf.grace), .int .i64 (cf.window), .int .i64 (cf.t0), .int .i64 (cf.t1), .int .i64 (cf.t2), .int .i64 (cf.t3), .int .i64 (cf.tol), .int .i64 (cf.min), .int .i64 (cf.max), .int .i64 (cf.calmup), .int .i64 (cf.calmdown), .int .i64 (cf.podsup), .int .i64 (cf.pctup), .int .i64 (cf.podsdown), .int .i64 (cf.pctdown), .int .i64 (cf.period), .int .i64 (cf.far), .int .i64 (cf.strikes), .int .i64 (cf.probe), .int .i64 (cf.sectors), .int .u64 (cf.seed)]) 0 rfl rfl rfl sz3 rfl rfl (by exact Nat.le_of_ble_eq_true rfl) rfl) ?_
  rintro _ _ ⟨rfl, rfl⟩
  refine TL.val rfl rfl (Nat.le_of_ble_eq_true rfl) (Val.fieldAddr rfl fl26_3 sz3 rfl) ?_
  refine TL.does none rfl rfl rfl (Does.storeR (ys' := [.int .i64 (mx), .int .i64 (1), .int .i64 (cf.m), .int .i64 (3), .int .i64 (cf.fresh), .int .i64 (cf.grace), .int .i64 (cf.window), .int .i64 (cf.t0), .int .i64 (cf.t1), .int .i64 (cf.t2), .int .i64 (cf.t3), .int .i64 (cf.tol), .int .i64 (cf.min), .int .i64 (cf.max), .int .i64 (cf.calmup), .int .i64 (cf.calmdown), .int .i64 (cf.podsup), .int .i64 (cf.pctup), .int .i64 (cf.podsdown), .int .i64 (cf.pctdown), .int .i64 (cf.period), .int .i64 (cf.far), .int .i64 (cf.strikes), .int .i64 (cf.probe), .int .i64 (cf.sectors), .int .u64 (cf.seed)]) 0 rfl rfl rfl sz3 rfl rfl (by exact Nat.le_of_ble_eq_true rfl) rfl) ?_
  rintro _ _ ⟨rfl, rfl⟩
  refine TL.nil ?_
  refine AtX.then ?_
  refine TC.env (E' := [(1, _), (4, _), (5, _)]) (Sub.cons rfl (Sub.cons rfl (Sub.cons rfl (Sub.nil _)))) ?_
  refine TC.seq ?_
  obtain ⟨c2, hc2e⟩ : ∃ c2 : Cf, c2 = ⟨mx, 1, cf.m, 3, cf.fresh, cf.grace, cf.window, cf.t0, cf.t1, cf.t2, cf.t3, cf.tol, cf.min, cf.max, cf.calmup, cf.calmdown, cf.podsup, cf.pctup, cf.podsdown, cf.pctdown, cf.period, cf.far, cf.strikes, cf.probe, cf.sectors, cf.seed⟩ := ⟨_, rfl⟩
  have hc2 : OkC c2 := by subst hc2e; exact okOut hcf hmx
  refine TC.heap (M' := (b2, .cells #[.int .i64 (c2.n), .int .i64 (c2.f), .int .i64 (c2.m), .int .i64 (c2.quorum), .int .i64 (c2.fresh), .int .i64 (c2.grace), .int .i64 (c2.window), .int .i64 (c2.t0), .int .i64 (c2.t1), .int .i64 (c2.t2), .int .i64 (c2.t3), .int .i64 (c2.tol), .int .i64 (c2.min), .int .i64 (c2.max), .int .i64 (c2.calmup), .int .i64 (c2.calmdown), .int .i64 (c2.podsup), .int .i64 (c2.pctup), .int .i64 (c2.podsdown), .int .i64 (c2.pctdown), .int .i64 (c2.period), .int .i64 (c2.far), .int .i64 (c2.strikes), .int .i64 (c2.probe), .int .i64 (c2.sectors), .int .u64 (c2.seed)] 26 (0, 0)) :: M) (fun w h => by subst hc2e; exact h) ?_
  have hn16 := hc2.n
  have hfr := hc2.fresh
  have hmm := hc2.m
  have hwin := hc2.window
  have hgrc := hc2.grace
  obtain ⟨N, hN⟩ : ∃ N : Nat, c2.n = N := ⟨c2.n.toNat, by omega⟩
  refine TC.region ?_
  refine TL.val rfl rfl (Nat.le_of_ble_eq_true rfl) (Val.loadAgg (vs := [.int .i64 (c2.n), .int .i64 (c2.f), .int .i64 (c2.m), .int .i64 (c2.quorum), .int .i64 (c2.fresh), .int .i64 (c2.grace), .int .i64 (c2.window), .int .i64 (c2.t0), .int .i64 (c2.t1), .int .i64 (c2.t2), .int .i64 (c2.t3), .int .i64 (c2.tol), .int .i64 (c2.min), .int .i64 (c2.max), .int .i64 (c2.calmup), .int .i64 (c2.calmdown), .int .i64 (c2.podsup), .int .i64 (c2.pctup), .int .i64 (c2.podsdown), .int .i64 (c2.pctdown), .int .i64 (c2.period), .int .i64 (c2.far), .int .i64 (c2.strikes), .int .i64 (c2.probe), .int .i64 (c2.sectors), .int .u64 (c2.seed)]) 0 rfl ag26 sz26 rfl rfl rfl) ?_
  refine TL.does (some 24) rfl rfl rfl (Does.callF go29 rfl (gNew_fn c2 N _ hc2 hN)) ?_
  rintro _ _ ⟨gb, rb, lb, nb, cn, sn, ob, co, so, nws, ols, rfl, hnl, hol, rfl⟩
  refine TL.val rfl rfl (Nat.le_of_ble_eq_true rfl) (Val.assign rfl) ?_
  refine TL.nil ?_
  refine AtX.then ?_
  refine TC.env (E' := [(1, _), (4, _), (5, _), (6, _)]) (Sub.cons rfl (Sub.cons rfl (Sub.cons rfl (Sub.cons rfl (Sub.nil _))))) ?_
  refine TC.seq ?_
  refine TC.heap (M' := gateO gb c2 rb (some ⟨nb, 0, none⟩) N cn (some ⟨ob, 0, none⟩) N co 0 :: ringO rb c2.seed lb N c2.grace 0 :: (lb, row 161 ((List.replicate N (⟨0, 0⟩ : On)).flatMap On.cs)) :: (nb, row 118 (nws.map pp ++ sn)) :: (ob, row 118 (ols.map pp ++ so)) :: (b2, .cells #[.int .i64 (c2.n), .int .i64 (c2.f), .int .i64 (c2.m), .int .i64 (c2.quorum), .int .i64 (c2.fresh), .int .i64 (c2.grace), .int .i64 (c2.window), .int .i64 (c2.t0), .int .i64 (c2.t1), .int .i64 (c2.t2), .int .i64 (c2.t3), .int .i64 (c2.tol), .int .i64 (c2.min), .int .i64 (c2.max), .int .i64 (c2.calmup), .int .i64 (c2.calmdown), .int .i64 (c2.podsup), .int .i64 (c2.pctup), .int .i64 (c2.podsdown), .int .i64 (c2.pctdown), .int .i64 (c2.period), .int .i64 (c2.far), .int .i64 (c2.strikes), .int .i64 (c2.probe), .int .i64 (c2.sectors), .int .u64 (c2.seed)] 26 (0, 0)) :: ((nws.map fun p => repO p c2.window 0 0 0) ++ ((ols.map fun p => repO p c2.window 0 0 0) ++ M))) ro_bx ?_
  obtain ⟨r1, hr1, g1_, l1_⟩ := rem_ex (m := IntKind.u64.wrap who) (d := c2.n) (by rw [w_u64m]; omega) (by omega)
  obtain ⟨k, hkr⟩ : ∃ k : Nat, r1 = k := ⟨r1.toNat, by omega⟩
  subst hkr
  have hk := hr1
  have hkN : k < N := by omega
  have hm : mayM ⟨1, ((k : Nat) : Int), 0, 1, 0, 1, 0⟩ = true := mayM_iff.2 (by simp; omega)
  obtain ⟨p, hp⟩ : ∃ p, nws[k]? = some p := ⟨_, List.getElem?_eq_getElem (by omega)⟩
  obtain ⟨p2, hp2⟩ : ∃ p2, ols[k]? = some p2 := ⟨_, List.getElem?_eq_getElem (by omega)⟩
  have hx0 : (List.replicate N (⟨0, 0⟩ : On))[k]? = some (⟨0, 0⟩ : On) := by rw [List.getElem?_replicate, if_pos (by omega)]
  refine TC.region ?_
  refine TL.val rfl rfl (Nat.le_of_ble_eq_true rfl) (Val.move rfl) ?_
  refine TL.val rfl rfl (Nat.le_of_ble_eq_true rfl) (Val.convI rfl iu3 in32 rfl) ?_
  refine TL.val rfl rfl (Nat.le_of_ble_eq_true rfl) (Val.fieldAddr rfl fl26_0 sz3 rfl) ?_
  refine TL.val rfl rfl (Nat.le_of_ble_eq_true rfl) (Val.load 5 rfl ag3 rfl rfl) ?_
  refine TL.val rfl rfl (Nat.le_of_ble_eq_true rfl) (Val.convI rfl iu3 in32 (r := c2.n) (w_u64 (by omega) (by omega))) ?_
  refine TL.val rfl rfl (Nat.le_of_ble_eq_true rfl) (Val.rem rfl rfl (by omega) (r := ((k : Nat) : Int)) hk) ?_
  refine TL.val rfl rfl (Nat.le_of_ble_eq_true rfl) (Val.convI rfl iu32 in3 (r := ((k : Nat) : Int)) (w_i64 (by omega) (by omega))) ?_
  refine TL.val rfl rfl (Nat.le_of_ble_eq_true rfl) (Val.assign rfl) ?_
  refine TL.nil ?_
  refine AtX.then ?_
  refine TC.env (E' := [(4, _), (5, _), (6, _), (7, _)]) (Sub.cons rfl (Sub.cons rfl (Sub.cons rfl (Sub.cons rfl (Sub.nil _))))) ?_
  refine TC.seq ?_
  refine TC.region ?_
  refine TL.val rfl rfl (Nat.le_of_ble_eq_true rfl) (Val.fieldAddr rfl fl26_22 sz24 rfl) ?_
  refine TL.val rfl rfl (Nat.le_of_ble_eq_true rfl) (Val.load 5 rfl ag24 rfl rfl) ?_
  refine TL.val rfl rfl (Nat.le_of_ble_eq_true rfl) (Val.move rfl) ?_
  refine TL.does (some 35) rfl rfl rfl (Does.callF go30 rfl (sNew_fn c2.seed k _ ⟨by omega, by omega⟩)) ?_
  rintro _ _ ⟨sb, rfl, rfl⟩
  refine TL.val rfl rfl (Nat.le_of_ble_eq_true rfl) (Val.assign rfl) ?_
  refine TL.nil ?_
  refine AtX.then ?_
  refine TC.env (E' := [(4, _), (6, _), (7, _), (8, _)]) (Sub.cons rfl (Sub.cons rfl (Sub.cons rfl (Sub.cons rfl (Sub.nil _))))) ?_
  refine TC.seq ?_
  refine TC.seq ?_
  refine TC.heap (M' := gateO gb c2 rb (some ⟨nb, 0, none⟩) N cn (some ⟨ob, 0, none⟩) N co 0 :: ringO rb c2.seed lb N c2.grace 0 :: (lb, row 161 ((List.replicate N (⟨0, 0⟩ : On)).flatMap On.cs)) :: (nb, row 118 (nws.map pp ++ sn)) :: (ob, row 118 (ols.map pp ++ so)) :: (sobj sb c2.seed (k : Nat) 0 0 :: (b2, .cells #[.int .i64 (c2.n), .int .i64 (c2.f), .int .i64 (c2.m), .int .i64 (c2.quorum), .int .i64 (c2.fresh), .int .i64 (c2.grace), .int .i64 (c2.window), .int .i64 (c2.t0), .int .i64 (c2.t1), .int .i64 (c2.t2), .int .i64 (c2.t3), .int .i64 (c2.tol), .int .i64 (c2.min), .int .i64 (c2.max), .int .i64 (c2.calmup), .int .i64 (c2.calmdown), .int .i64 (c2.podsup), .int .i64 (c2.pctup), .int .i64 (c2.podsdown), .int .i64 (c2.pctdown), .int .i64 (c2.period), .int .i64 (c2.far), .int .i64 (c2.strikes), .int .i64 (c2.probe), .int .i64 (c2.sectors), .int .u64 (c2.seed)] 26 (0, 0)) :: ((nws.map fun p => repO p c2.window 0 0 0) ++ ((ols.map fun p => repO p c2.window 0 0 0) ++ M)))) (fun w h => ro_mv (A := [_]) (L := [_, _, _, _, _]) w h) ?_
  refine TC.region ?_
  refine TL.val rfl rfl (Nat.le_of_ble_eq_true rfl) (Val.move rfl) ?_
  refine TL.val rfl rfl (Nat.le_of_ble_eq_true rfl) (Val.eqlNil rfl rfl pt55) ?_
  refine TL.val rfl rfl (Nat.le_of_ble_eq_true rfl) (Val.move rfl) ?_
  refine TL.valYes rfl rfl (Nat.le_of_ble_eq_true rfl) rfl (Nat.le_of_ble_eq_true rfl) rfl (Val.move rfl) ?_
  refine TL.valYes rfl rfl (Nat.le_of_ble_eq_true rfl) rfl (Nat.le_of_ble_eq_true rfl) rfl (Val.eqlNil rfl rfl pt57) ?_
  first
    | refine TL.val rfl rfl (Nat.le_of_ble_eq_true rfl) (Val.pickAnd rfl rfl rfl) ?_
    | refine TL.val rfl rfl (Nat.le_of_ble_eq_true rfl) (Val.pickOr rfl rfl rfl) ?_
    | refine TL.val rfl rfl (Nat.le_of_ble_eq_true rfl) (Val.pick rfl rfl rfl) ?_
  refine TL.nil ?_
  refine AtX.then ?_
  refine TC.env (E' := [(4, _), (6, _), (7, _), (8, _), (41, _)]) (Sub.cons rfl (Sub.cons rfl (Sub.cons rfl (Sub.cons rfl (Sub.cons rfl (Sub.nil _)))))) ?_
  first | refine TC.condP rfl (fun c1 => ?_) (fun c1 => ?_) | refine TC.condN rfl (fun c1 => ?_) (fun c1 => ?_) | refine TC.condB rfl (fun c1 => ?_) (fun c1 => ?_) | refine TC.cond rfl (fun c1 => ?_) (fun c1 => ?_)
  · skip
    (exfalso; simp at c1)
  · skip
    refine TC.env (E' := [(4, _), (6, _), (7, _), (8, _)]) (Sub.cons rfl (Sub.cons rfl (Sub.cons rfl (Sub.cons rfl (Sub.nil _))))) ?_
    refine TC.skip ?_
    refine AtX.then ?_
    refine TC.env (E' := [(4, _), (6, _), (7, _), (8, _)]) (Sub.cons rfl (Sub.cons rfl (Sub.cons rfl (Sub.cons rfl (Sub.nil _))))) ?_
    refine TC.seq ?_
    refine TC.region ?_
    refine TL.val rfl rfl (Nat.le_of_ble_eq_true rfl) (Val.move rfl) ?_
    refine TL.does (some 44) rfl rfl rfl (Does.callF go31 rfl (sSample_fn sb 5 c2.seed (k : Nat) 0 0 0 0 1 _ rfl hm)) ?_
    rintro _ _ ⟨bE, cE, spE, rfl, hcE, rfl⟩
    refine TL.heap (M' := gateO gb c2 rb (some ⟨nb, 0, none⟩) N cn (some ⟨ob, 0, none⟩) N co 0 :: ringO rb c2.seed lb N c2.grace 0 :: (lb, row 161 ((List.replicate N (⟨0, 0⟩ : On)).flatMap On.cs)) :: (nb, row 118 (nws.map pp ++ sn)) :: (ob, row 118 (ols.map pp ++ so)) :: ((bE, row 5 (bv (sealB (macKey c2.seed ((k : Nat) : Int) 0) ⟨1, ((k : Nat) : Int), 0, 1, 0, 1, 0⟩) ++ spE)) :: sobj sb c2.seed (k : Nat) 0 (0 + 1) :: (b2, .cells #[.int .i64 (c2.n), .int .i64 (c2.f), .int .i64 (c2.m), .int .i64 (c2.quorum), .int .i64 (c2.fresh), .int .i64 (c2.grace), .int .i64 (c2.window), .int .i64 (c2.t0), .int .i64 (c2.t1), .int .i64 (c2.t2), .int .i64 (c2.t3), .int .i64 (c2.tol), .int .i64 (c2.min), .int .i64 (c2.max), .int .i64 (c2.calmup), .int .i64 (c2.calmdown), .int .i64 (c2.podsup), .int .i64 (c2.pctup), .int .i64 (c2.podsdown), .int .i64 (c2.pctdown), .int .i64 (c2.period), .int .i64 (c2.far), .int .i64 (c2.strikes), .int .i64 (c2.probe), .int .i64 (c2.sectors), .int .u64 (c2.seed)] 26 (0, 0)) :: ((nws.map fun p => repO p c2.window 0 0 0) ++ ((ols.map fun p => repO p c2.window 0 0 0) ++ M)))) (fun w h => ro_mv (A := [_]) (L := [_, _, _, _, _]) w h) ?_
    refine TL.val rfl rfl (Nat.le_of_ble_eq_true rfl) (Val.move rfl) ?_
    refine TL.val rfl rfl (Nat.le_of_ble_eq_true rfl) (Val.extract rfl rfl) ?_
    refine TL.val rfl rfl (Nat.le_of_ble_eq_true rfl) (Val.extract rfl rfl) ?_
    refine TL.val rfl rfl (Nat.le_of_ble_eq_true rfl) (Val.assign rfl) ?_
    refine TL.val rfl rfl (Nat.le_of_ble_eq_true rfl) (Val.assign rfl) ?_
    refine TL.nil ?_
    refine AtX.then ?_
    refine TC.env (E' := [(4, _), (6, _), (7, _), (9, _), (10, _)]) (Sub.cons rfl (Sub.cons rfl (Sub.cons rfl (Sub.cons rfl (Sub.cons rfl (Sub.nil _)))))) ?_
    refine TC.seq ?_
    have hrep : ((bE, row 5 (bv (sealB (macKey c2.seed ((k : Nat) : Int) 0) ⟨1, ((k : Nat) : Int), 0, 1, 0, 1, 0⟩) ++ spE)) :: sobj sb c2.seed (k : Nat) 0 (0 + 1) :: (b2, .cells #[.int .i64 (c2.n), .int .i64 (c2.f), .int .i64 (c2.m), .int .i64 (c2.quorum), .int .i64 (c2.fresh), .int .i64 (c2.grace), .int .i64 (c2.window), .int .i64 (c2.t0), .int .i64 (c2.t1), .int .i64 (c2.t2), .int .i64 (c2.t3), .int .i64 (c2.tol), .int .i64 (c2.min), .int .i64 (c2.max), .int .i64 (c2.calmup), .int .i64 (c2.calmdown), .int .i64 (c2.podsup), .int .i64 (c2.pctup), .int .i64 (c2.podsdown), .int .i64 (c2.pctdown), .int .i64 (c2.period), .int .i64 (c2.far), .int .i64 (c2.strikes), .int .i64 (c2.probe), .int .i64 (c2.sectors), .int .u64 (c2.seed)] 26 (0, 0)) :: ((nws.map fun p => repO p c2.window 0 0 0) ++ ((ols.map fun p => repO p c2.window 0 0 0) ++ M)))[k + 3]? = some (repO (if sgen 1 0 = (⟨0, 0⟩ : On).gen then p else p2) c2.window 0 0 0) := by show (((nws.map fun p => repO p c2.window 0 0 0) ++ ((ols.map fun p => repO p c2.window 0 0 0) ++ M)))[k]? = _; rw [List.getElem?_append_left (by simp; omega), List.getElem?_map, hp]; rfl
    refine TC.region ?_
    refine TL.val rfl rfl (Nat.le_of_ble_eq_true rfl) (Val.move rfl) ?_
    refine TL.val rfl rfl (Nat.le_of_ble_eq_true rfl) (Val.move rfl) ?_
    refine TL.does (some 50) rfl rfl rfl (Does.callF go32 rfl ((show FnC Try.prog _ _ _ (fun v M' => ∃ (q : Ms) (code as2 ref2 : Int), v = .tuple #[.agg #[.int .i64 q.kind, .int .i64 q.who, .int .i64 q.gen, .int .i64 q.seq, .int .i64 q.epoch, .int .i64 q.value, .int .i64 q.metric], .int .i64 code] ∧ (((k : Int) = 2 ∧ code = 3) ∨ ((k : Int) ≠ 2 ∧ code = 0)) ∧ (0 ≤ as2 ∧ as2 ≤ 1) ∧ (0 ≤ ref2 ∧ ref2 ≤ 1) ∧ M' = (gateO gb c2 rb (some ⟨nb, 0, none⟩) N cn (some ⟨ob, 0, none⟩) N co ref2 :: ringO rb c2.seed lb N c2.grace as2 :: (lb, row 161 ((List.replicate N (⟨0, 0⟩ : On)).flatMap On.cs)) :: (nb, row 118 (nws.map pp ++ sn)) :: (ob, row 118 (ols.map pp ++ so)) :: ((bE, row 5 (bv (sealB (macKey c2.seed ((k : Nat) : Int) 0) ⟨1, ((k : Nat) : Int), 0, 1, 0, 1, 0⟩) ++ spE)) :: sobj sb c2.seed (k : Nat) 0 (0 + 1) :: (b2, .cells #[.int .i64 (c2.n), .int .i64 (c2.f), .int .i64 (c2.m), .int .i64 (c2.quorum), .int .i64 (c2.fresh), .int .i64 (c2.grace), .int .i64 (c2.window), .int .i64 (c2.t0), .int .i64 (c2.t1), .int .i64 (c2.t2), .int .i64 (c2.t3), .int .i64 (c2.tol), .int .i64 (c2.min), .int .i64 (c2.max), .int .i64 (c2.calmup), .int .i64 (c2.calmdown), .int .i64 (c2.podsup), .int .i64 (c2.pctup), .int .i64 (c2.podsdown), .int .i64 (c2.pctdown), .int .i64 (c2.period), .int .i64 (c2.far), .int .i64 (c2.strikes), .int .i64 (c2.probe), .int .i64 (c2.sectors), .int .u64 (c2.seed)] 26 (0, 0)) :: ((nws.map fun p => repO p c2.window 0 0 0) ++ ((ols.map fun p => repO p c2.window 0 0 0) ++ M))))) from by
        by_cases hk2 : (k : Int) = 2
        · exact (Check_two gb rb lb nb cn ob co sn so c2 N 0 0 (List.replicate N (⟨0, 0⟩ : On)) nws ols ((bE, row 5 (bv (sealB (macKey c2.seed ((k : Nat) : Int) 0) ⟨1, ((k : Nat) : Int), 0, 1, 0, 1, 0⟩) ++ spE)) :: sobj sb c2.seed (k : Nat) 0 (0 + 1) :: (b2, .cells #[.int .i64 (c2.n), .int .i64 (c2.f), .int .i64 (c2.m), .int .i64 (c2.quorum), .int .i64 (c2.fresh), .int .i64 (c2.grace), .int .i64 (c2.window), .int .i64 (c2.t0), .int .i64 (c2.t1), .int .i64 (c2.t2), .int .i64 (c2.t3), .int .i64 (c2.tol), .int .i64 (c2.min), .int .i64 (c2.max), .int .i64 (c2.calmup), .int .i64 (c2.calmdown), .int .i64 (c2.podsup), .int .i64 (c2.pctup), .int .i64 (c2.podsdown), .int .i64 (c2.pctdown), .int .i64 (c2.period), .int .i64 (c2.far), .int .i64 (c2.strikes), .int .i64 (c2.probe), .int .i64 (c2.sectors), .int .u64 (c2.seed)] 26 (0, 0)) :: ((nws.map fun p => repO p c2.window 0 0 0) ++ ((ols.map fun p => repO p c2.window 0 0 0) ++ M))) hN (by simp) hnl hol hgrc ⟨by decide, by decide⟩ k ⟨0, 0⟩ hx0 ⟨by decide, by decide⟩ ⟨by decide, by decide⟩ 1 0 1 0 1 0 ⟨by decide, by decide⟩ (by decide) 0 hc2 p p2 hp hp2 (k + 3) 0 0 0 ⟨by decide, by decide⟩ hrep ⟨by decide, by decide⟩ hm ⟨by decide, by decide⟩ (tagB (tagOf (macKey c2.seed ((k : Nat) : Int) 0) (putM ⟨1, ((k : Nat) : Int), 0, 1, 0, 1, 0⟩))) (some ⟨bE, 0, none⟩) cE (rd_all (i := 0) (sp := spE) rfl) (by omega) (by simp) hk2).mono (fun v M' h => ⟨msZ, 3, 0, _, h.1, .inl ⟨hk2, rfl⟩, ⟨by decide, by decide⟩, ⟨by decide, by decide⟩, h.2⟩)
        · exact (Check_out gb rb lb nb cn ob co sn so c2 N 0 0 (List.replicate N (⟨0, 0⟩ : On)) nws ols ((bE, row 5 (bv (sealB (macKey c2.seed ((k : Nat) : Int) 0) ⟨1, ((k : Nat) : Int), 0, 1, 0, 1, 0⟩) ++ spE)) :: sobj sb c2.seed (k : Nat) 0 (0 + 1) :: (b2, .cells #[.int .i64 (c2.n), .int .i64 (c2.f), .int .i64 (c2.m), .int .i64 (c2.quorum), .int .i64 (c2.fresh), .int .i64 (c2.grace), .int .i64 (c2.window), .int .i64 (c2.t0), .int .i64 (c2.t1), .int .i64 (c2.t2), .int .i64 (c2.t3), .int .i64 (c2.tol), .int .i64 (c2.min), .int .i64 (c2.max), .int .i64 (c2.calmup), .int .i64 (c2.calmdown), .int .i64 (c2.podsup), .int .i64 (c2.pctup), .int .i64 (c2.podsdown), .int .i64 (c2.pctdown), .int .i64 (c2.period), .int .i64 (c2.far), .int .i64 (c2.strikes), .int .i64 (c2.probe), .int .i64 (c2.sectors), .int .u64 (c2.seed)] 26 (0, 0)) :: ((nws.map fun p => repO p c2.window 0 0 0) ++ ((ols.map fun p => repO p c2.window 0 0 0) ++ M))) hN (by simp) hnl hol hgrc ⟨by decide, by decide⟩ k ⟨0, 0⟩ hx0 ⟨by decide, by decide⟩ ⟨by decide, by decide⟩ 1 0 1 0 1 0 ⟨by decide, by decide⟩ (by decide) 0 hc2 p p2 hp hp2 (k + 3) 0 0 0 ⟨by decide, by decide⟩ hrep ⟨by decide, by decide⟩ hm ⟨by decide, by decide⟩ (tagB (tagOf (macKey c2.seed ((k : Nat) : Int) 0) (putM ⟨1, ((k : Nat) : Int), 0, 1, 0, 1, 0⟩))) (some ⟨bE, 0, none⟩) cE (rd_all (i := 0) (sp := spE) rfl) (by omega) (by simp) hk2).mono (fun v M' h => h.elim (fun h => ⟨⟨1, ((k : Nat) : Int), 0, 1, 0, 1, 0⟩, 0, _, 0, h.2.1, .inr ⟨hk2, rfl⟩, ⟨by decide, by decide⟩, ⟨by decide, by decide⟩, h.2.2⟩) (fun h => False.elim (h.1 (chk0 (show okK ⟨0, 0⟩ (sgen 1 0) 0 c2.grace = true from rfl) (decide_eq_true (same_yes (tagOf_bd (macKey c2.seed ((k : Nat) : Int) 0) (putM ⟨1, ((k : Nat) : Int), 0, 1, 0, 1, 0⟩)).1 (tagOf_bd (macKey c2.seed ((k : Nat) : Int) 0) (putM ⟨1, ((k : Nat) : Int), 0, 1, 0, 1, 0⟩)).2)) (may0 hwin) (stale0 hfr.1) (e := decide ((0 : Int) < c2.m)) (decide_eq_true (by omega))))))))) ?_
    rintro _ _ ⟨q, code, as2, ref2, rfl, hq, hqa, hqr, rfl⟩
    refine TL.val rfl rfl (Nat.le_of_ble_eq_true rfl) (Val.move rfl) ?_
    refine TL.val rfl rfl (Nat.le_of_ble_eq_true rfl) (Val.extract rfl rfl) ?_
    refine TL.val rfl rfl (Nat.le_of_ble_eq_true rfl) (Val.extract rfl rfl) ?_
    refine TL.does (some 11) rfl rfl rfl (Does.alloc ze61 rfl) ?_
    rintro _ _ ⟨b7, rfl, rfl⟩
    first
      | refine TL.does none rfl rfl rfl (Does.store (i := 0) rfl rfl rfl sz61 rfl rfl (by first | exact Nat.le_of_ble_eq_true rfl | decide | omega) rfl rfl) ?_
      | refine TL.does none rfl rfl rfl (Does.store (i := 1) rfl rfl rfl sz61 rfl rfl (by first | exact Nat.le_of_ble_eq_true rfl | decide | omega) rfl rfl) ?_
      | refine TL.does none rfl rfl rfl (Does.store (i := 2) rfl rfl rfl sz61 rfl rfl (by first | exact Nat.le_of_ble_eq_true rfl | decide | omega) rfl rfl) ?_
      | refine TL.does none rfl rfl rfl (Does.store (i := 3) rfl rfl rfl sz61 rfl rfl (by first | exact Nat.le_of_ble_eq_true rfl | decide | omega) rfl rfl) ?_
      | refine TL.does none rfl rfl rfl (Does.store (i := 4) rfl rfl rfl sz61 rfl rfl (by first | exact Nat.le_of_ble_eq_true rfl | decide | omega) rfl rfl) ?_
      | refine TL.does none rfl rfl rfl (Does.store (i := 5) rfl rfl rfl sz61 rfl rfl (by first | exact Nat.le_of_ble_eq_true rfl | decide | omega) rfl rfl) ?_
      | refine TL.does none rfl rfl rfl (Does.store (i := 6) rfl rfl rfl sz61 rfl rfl (by first | exact Nat.le_of_ble_eq_true rfl | decide | omega) rfl rfl) ?_
      | refine TL.does none rfl rfl rfl (Does.store (i := 7) rfl rfl rfl sz61 rfl rfl (by first | exact Nat.le_of_ble_eq_true rfl | decide | omega) rfl rfl) ?_
      | refine TL.does none rfl rfl rfl (Does.store (i := 8) rfl rfl rfl sz61 rfl rfl (by first | exact Nat.le_of_ble_eq_true rfl | decide | omega) rfl rfl) ?_
      | refine TL.does none rfl rfl rfl (Does.store (i := 9) rfl rfl rfl sz61 rfl rfl (by first | exact Nat.le_of_ble_eq_true rfl | decide | omega) rfl rfl) ?_
    rintro _ _ ⟨rfl, rfl⟩
    refine TL.val rfl rfl (Nat.le_of_ble_eq_true rfl) (Val.assign rfl) ?_
    refine TL.nil ?_
    refine AtX.then ?_
    refine TC.env (E' := [(4, _), (6, _), (7, _), (9, _), (10, _), (12, _)]) (Sub.cons rfl (Sub.cons rfl (Sub.cons rfl (Sub.cons rfl (Sub.cons rfl (Sub.cons rfl (Sub.nil _))))))) ?_
    refine TC.seq ?_
    refine TC.heap (M' := gateO gb c2 rb (some ⟨nb, 0, none⟩) N cn (some ⟨ob, 0, none⟩) N co ref2 :: ringO rb c2.seed lb N c2.grace as2 :: (lb, row 161 ((List.replicate N (⟨0, 0⟩ : On)).flatMap On.cs)) :: (nb, row 118 (nws.map pp ++ sn)) :: (ob, row 118 (ols.map pp ++ so)) :: ((bE, row 5 (bv (sealB (macKey c2.seed ((k : Nat) : Int) 0) ⟨1, ((k : Nat) : Int), 0, 1, 0, 1, 0⟩) ++ spE)) :: sobj sb c2.seed (k : Nat) 0 (0 + 1) :: (b2, .cells #[.int .i64 (c2.n), .int .i64 (c2.f), .int .i64 (c2.m), .int .i64 (c2.quorum), .int .i64 (c2.fresh), .int .i64 (c2.grace), .int .i64 (c2.window), .int .i64 (c2.t0), .int .i64 (c2.t1), .int .i64 (c2.t2), .int .i64 (c2.t3), .int .i64 (c2.tol), .int .i64 (c2.min), .int .i64 (c2.max), .int .i64 (c2.calmup), .int .i64 (c2.calmdown), .int .i64 (c2.podsup), .int .i64 (c2.pctup), .int .i64 (c2.podsdown), .int .i64 (c2.pctdown), .int .i64 (c2.period), .int .i64 (c2.far), .int .i64 (c2.strikes), .int .i64 (c2.probe), .int .i64 (c2.sectors), .int .u64 (c2.seed)] 26 (0, 0)) :: ((nws.map fun p => repO p c2.window 0 0 0) ++ ((ols.map fun p => repO p c2.window 0 0 0) ++ M)))) (fun w h => h.drop) ?_
    refine TC.region ?_
    refine TL.val rfl rfl (Nat.le_of_ble_eq_true rfl) (Val.move rfl) ?_
    refine TL.val rfl rfl (Nat.le_of_ble_eq_true rfl) (Val.move rfl) ?_
    refine TL.does (some 56) rfl rfl rfl (Does.callF go32 rfl ((Check_nil gb rb lb nb cn ob co sn so c2 N as2 ref2 (List.replicate N (⟨0, 0⟩ : On)) nws ols ((bE, row 5 (bv (sealB (macKey c2.seed ((k : Nat) : Int) 0) ⟨1, ((k : Nat) : Int), 0, 1, 0, 1, 0⟩) ++ spE)) :: sobj sb c2.seed (k : Nat) 0 (0 + 1) :: (b2, .cells #[.int .i64 (c2.n), .int .i64 (c2.f), .int .i64 (c2.m), .int .i64 (c2.quorum), .int .i64 (c2.fresh), .int .i64 (c2.grace), .int .i64 (c2.window), .int .i64 (c2.t0), .int .i64 (c2.t1), .int .i64 (c2.t2), .int .i64 (c2.t3), .int .i64 (c2.tol), .int .i64 (c2.min), .int .i64 (c2.max), .int .i64 (c2.calmup), .int .i64 (c2.calmdown), .int .i64 (c2.podsup), .int .i64 (c2.pctup), .int .i64 (c2.podsdown), .int .i64 (c2.pctdown), .int .i64 (c2.period), .int .i64 (c2.far), .int .i64 (c2.strikes), .int .i64 (c2.probe), .int .i64 (c2.sectors), .int .u64 (c2.seed)] 26 (0, 0)) :: ((nws.map fun p => repO p c2.window 0 0 0) ++ ((ols.map fun p => repO p c2.window 0 0 0) ++ M))) hN (by simp) hnl hol hgrc ⟨by omega, by omega⟩ k ⟨0, 0⟩ hx0 ⟨by decide, by decide⟩ ⟨by decide, by decide⟩ 1 0 1 0 1 0 ⟨by decide, by decide⟩ (by decide) 0 hc2 p p2 hp hp2 (k + 3) 0 0 0 ⟨by decide, by decide⟩ hrep ⟨by decide, by decide⟩ hm ⟨by omega, by omega⟩ (tagB (tagOf (macKey c2.seed ((k : Nat) : Int) 0) (putM ⟨1, ((k : Nat) : Int), 0, 1, 0, 1, 0⟩))) (some ⟨bE, 0, none⟩) cE (rd_all (i := 0) (sp := spE) rfl) (by omega) (by simp)).mono (R' := fun v M' => v = .tuple #[.agg #[.int .i64 1, .int .i64 (k : Nat), .int .i64 0, .int .i64 1, .int .i64 0, .int .i64 1, .int .i64 0], .int .i64 0] ∧ M' = (gateO gb c2 rb (some ⟨nb, 0, none⟩) N cn (some ⟨ob, 0, none⟩) N co ref2 :: ringO rb c2.seed lb N c2.grace (as2 + 1) :: (lb, row 161 ((List.replicate N (⟨0, 0⟩ : On)).flatMap On.cs)) :: (nb, row 118 (nws.map pp ++ sn)) :: (ob, row 118 (ols.map pp ++ so)) :: ((bE, row 5 (bv (sealB (macKey c2.seed ((k : Nat) : Int) 0) ⟨1, ((k : Nat) : Int), 0, 1, 0, 1, 0⟩) ++ spE)) :: sobj sb c2.seed (k : Nat) 0 (0 + 1) :: (b2, .cells #[.int .i64 (c2.n), .int .i64 (c2.f), .int .i64 (c2.m), .int .i64 (c2.quorum), .int .i64 (c2.fresh), .int .i64 (c2.grace), .int .i64 (c2.window), .int .i64 (c2.t0), .int .i64 (c2.t1), .int .i64 (c2.t2), .int .i64 (c2.t3), .int .i64 (c2.tol), .int .i64 (c2.min), .int .i64 (c2.max), .int .i64 (c2.calmup), .int .i64 (c2.calmdown), .int .i64 (c2.podsup), .int .i64 (c2.pctup), .int .i64 (c2.podsdown), .int .i64 (c2.pctdown), .int .i64 (c2.period), .int .i64 (c2.far), .int .i64 (c2.strikes), .int .i64 (c2.probe), .int .i64 (c2.sectors), .int .u64 (c2.seed)] 26 (0, 0)) :: ((nws.map fun p => repO p c2.window 0 0 0) ++ ((ols.map fun p => repO p c2.window 0 0 0) ++ M))))) (fun v M' h => h.elim (fun h => And.intro h.2.1 h.2.2) (fun h => False.elim (h.1 (chk0 (show okK ⟨0, 0⟩ (sgen 1 0) 0 c2.grace = true from rfl) (decide_eq_true (same_yes (tagOf_bd (macKey c2.seed ((k : Nat) : Int) 0) (putM ⟨1, ((k : Nat) : Int), 0, 1, 0, 1, 0⟩)).1 (tagOf_bd (macKey c2.seed ((k : Nat) : Int) 0) (putM ⟨1, ((k : Nat) : Int), 0, 1, 0, 1, 0⟩)).2)) (may0 hwin) (stale0 hfr.1) (e := decide ((0 : Int) < c2.m)) (decide_eq_true (by omega)))))))) ?_
    rintro _ _ ⟨rfl, rfl⟩
    refine TL.val rfl rfl (Nat.le_of_ble_eq_true rfl) (Val.move rfl) ?_
    refine TL.val rfl rfl (Nat.le_of_ble_eq_true rfl) (Val.extract rfl rfl) ?_
    refine TL.val rfl rfl (Nat.le_of_ble_eq_true rfl) (Val.extract rfl rfl) ?_
    refine TL.does (some 13) rfl rfl rfl (Does.alloc ze61 rfl) ?_
    rintro _ _ ⟨b9, rfl, rfl⟩
    first
      | refine TL.does none rfl rfl rfl (Does.store (i := 0) rfl rfl rfl sz61 rfl rfl (by first | exact Nat.le_of_ble_eq_true rfl | decide | omega) rfl rfl) ?_
      | refine TL.does none rfl rfl rfl (Does.store (i := 1) rfl rfl rfl sz61 rfl rfl (by first | exact Nat.le_of_ble_eq_true rfl | decide | omega) rfl rfl) ?_
      | refine TL.does none rfl rfl rfl (Does.store (i := 2) rfl rfl rfl sz61 rfl rfl (by first | exact Nat.le_of_ble_eq_true rfl | decide | omega) rfl rfl) ?_
      | refine TL.does none rfl rfl rfl (Does.store (i := 3) rfl rfl rfl sz61 rfl rfl (by first | exact Nat.le_of_ble_eq_true rfl | decide | omega) rfl rfl) ?_
      | refine TL.does none rfl rfl rfl (Does.store (i := 4) rfl rfl rfl sz61 rfl rfl (by first | exact Nat.le_of_ble_eq_true rfl | decide | omega) rfl rfl) ?_
      | refine TL.does none rfl rfl rfl (Does.store (i := 5) rfl rfl rfl sz61 rfl rfl (by first | exact Nat.le_of_ble_eq_true rfl | decide | omega) rfl rfl) ?_
      | refine TL.does none rfl rfl rfl (Does.store (i := 6) rfl rfl rfl sz61 rfl rfl (by first | exact Nat.le_of_ble_eq_true rfl | decide | omega) rfl rfl) ?_
      | refine TL.does none rfl rfl rfl (Does.store (i := 7) rfl rfl rfl sz61 rfl rfl (by first | exact Nat.le_of_ble_eq_true rfl | decide | omega) rfl rfl) ?_
      | refine TL.does none rfl rfl rfl (Does.store (i := 8) rfl rfl rfl sz61 rfl rfl (by first | exact Nat.le_of_ble_eq_true rfl | decide | omega) rfl rfl) ?_
      | refine TL.does none rfl rfl rfl (Does.store (i := 9) rfl rfl rfl sz61 rfl rfl (by first | exact Nat.le_of_ble_eq_true rfl | decide | omega) rfl rfl) ?_
    rintro _ _ ⟨rfl, rfl⟩
    refine TL.val rfl rfl (Nat.le_of_ble_eq_true rfl) (Val.assign rfl) ?_
    refine TL.nil ?_
    refine AtX.then ?_
    refine TC.env (E' := [(4, _), (7, _), (10, _), (12, _), (14, _)]) (Sub.cons rfl (Sub.cons rfl (Sub.cons rfl (Sub.cons rfl (Sub.cons rfl (Sub.nil _)))))) ?_
    refine TC.seq ?_
    refine TC.heap (M' := gateO gb c2 rb (some ⟨nb, 0, none⟩) N cn (some ⟨ob, 0, none⟩) N co ref2 :: ringO rb c2.seed lb N c2.grace (as2 + 1) :: (lb, row 161 ((List.replicate N (⟨0, 0⟩ : On)).flatMap On.cs)) :: (nb, row 118 (nws.map pp ++ sn)) :: (ob, row 118 (ols.map pp ++ so)) :: ((bE, row 5 (bv (sealB (macKey c2.seed ((k : Nat) : Int) 0) ⟨1, ((k : Nat) : Int), 0, 1, 0, 1, 0⟩) ++ spE)) :: sobj sb c2.seed (k : Nat) 0 (0 + 1) :: (b2, .cells #[.int .i64 (c2.n), .int .i64 (c2.f), .int .i64 (c2.m), .int .i64 (c2.quorum), .int .i64 (c2.fresh), .int .i64 (c2.grace), .int .i64 (c2.window), .int .i64 (c2.t0), .int .i64 (c2.t1), .int .i64 (c2.t2), .int .i64 (c2.t3), .int .i64 (c2.tol), .int .i64 (c2.min), .int .i64 (c2.max), .int .i64 (c2.calmup), .int .i64 (c2.calmdown), .int .i64 (c2.podsup), .int .i64 (c2.pctup), .int .i64 (c2.podsdown), .int .i64 (c2.pctdown), .int .i64 (c2.period), .int .i64 (c2.far), .int .i64 (c2.strikes), .int .i64 (c2.probe), .int .i64 (c2.sectors), .int .u64 (c2.seed)] 26 (0, 0)) :: ((nws.map fun p => repO p c2.window 0 0 0) ++ ((ols.map fun p => repO p c2.window 0 0 0) ++ M)))) (fun w h => h.drop) ?_
    have h10 : (decide (code = 3) == decide (((k : Nat) : Int) = 2)) = true := by rcases hq with ⟨h, h2⟩ | ⟨h, h2⟩ <;> simp [h, h2]
    have h17 : (decide (code = 0) == decide (((k : Nat) : Int) ≠ 2)) = true := by rcases hq with ⟨h, h2⟩ | ⟨h, h2⟩ <;> simp [h, h2]
    refine TC.region ?_
    refine TL.does (some 59) rfl rfl rfl (Does.callF go35 rfl (told8_fn _)) ?_
    rintro _ _ ⟨rfl, rfl⟩
    refine TL.val rfl rfl (Nat.le_of_ble_eq_true rfl) (Val.move rfl) ?_
    refine TL.valYes rfl rfl (Nat.le_of_ble_eq_true rfl) rfl (Nat.le_of_ble_eq_true rfl) rfl (Val.move rfl) ?_
    refine TL.valYes rfl rfl (Nat.le_of_ble_eq_true rfl) rfl (Nat.le_of_ble_eq_true rfl) rfl (Val.same (v' := .bool true) (Val.eqlI rfl rfl) (rfl)) ?_
    first
      | refine TL.val rfl rfl (Nat.le_of_ble_eq_true rfl) (Val.same (v' := .bool true) (Val.pickAnd rfl rfl rfl) (rfl)) ?_
      | refine TL.val rfl rfl (Nat.le_of_ble_eq_true rfl) (Val.same (v' := .bool true) (Val.pickOr rfl rfl rfl) (rfl)) ?_
      | refine TL.val rfl rfl (Nat.le_of_ble_eq_true rfl) (Val.same (v' := .bool true) (Val.pick rfl rfl rfl) (rfl)) ?_
    refine TL.val rfl rfl (Nat.le_of_ble_eq_true rfl) (Val.move rfl) ?_
    refine TL.valYes rfl rfl (Nat.le_of_ble_eq_true rfl) rfl (Nat.le_of_ble_eq_true rfl) rfl (Val.move rfl) ?_
    refine TL.valYes rfl rfl (Nat.le_of_ble_eq_true rfl) rfl (Nat.le_of_ble_eq_true rfl) rfl (Val.eqlI rfl rfl) ?_
    refine TL.valYes rfl rfl (Nat.le_of_ble_eq_true rfl) rfl (Nat.le_of_ble_eq_true rfl) rfl (Val.move rfl) ?_
    refine TL.valYes rfl rfl (Nat.le_of_ble_eq_true rfl) rfl (Nat.le_of_ble_eq_true rfl) rfl (Val.eqlI rfl rfl) ?_
    refine TL.valYes rfl rfl (Nat.le_of_ble_eq_true rfl) rfl (Nat.le_of_ble_eq_true rfl) rfl (Val.same (v' := .bool true) (Val.eqlB rfl rfl un4) (congrArg Value.bool h10)) ?_
    first
      | refine TL.val rfl rfl (Nat.le_of_ble_eq_true rfl) (Val.same (v' := .bool true) (Val.pickAnd rfl rfl rfl) (rfl)) ?_
      | refine TL.val rfl rfl (Nat.le_of_ble_eq_true rfl) (Val.same (v' := .bool true) (Val.pickOr rfl rfl rfl) (rfl)) ?_
      | refine TL.val rfl rfl (Nat.le_of_ble_eq_true rfl) (Val.same (v' := .bool true) (Val.pick rfl rfl rfl) (rfl)) ?_
    refine TL.val rfl rfl (Nat.le_of_ble_eq_true rfl) (Val.move rfl) ?_
    refine TL.valYes rfl rfl (Nat.le_of_ble_eq_true rfl) rfl (Nat.le_of_ble_eq_true rfl) rfl (Val.move rfl) ?_
    refine TL.valYes rfl rfl (Nat.le_of_ble_eq_true rfl) rfl (Nat.le_of_ble_eq_true rfl) rfl (Val.eqlI rfl rfl) ?_
    refine TL.valYes rfl rfl (Nat.le_of_ble_eq_true rfl) rfl (Nat.le_of_ble_eq_true rfl) rfl (Val.move rfl) ?_
    refine TL.valYes rfl rfl (Nat.le_of_ble_eq_true rfl) rfl (Nat.le_of_ble_eq_true rfl) rfl (Val.neqI rfl rfl) ?_
    refine TL.valYes rfl rfl (Nat.le_of_ble_eq_true rfl) rfl (Nat.le_of_ble_eq_true rfl) rfl (Val.same (v' := .bool true) (Val.eqlB rfl rfl un4) (congrArg Value.bool h17)) ?_
    first
      | refine TL.val rfl rfl (Nat.le_of_ble_eq_true rfl) (Val.same (v' := .bool true) (Val.pickAnd rfl rfl rfl) (rfl)) ?_
      | refine TL.val rfl rfl (Nat.le_of_ble_eq_true rfl) (Val.same (v' := .bool true) (Val.pickOr rfl rfl rfl) (rfl)) ?_
      | refine TL.val rfl rfl (Nat.le_of_ble_eq_true rfl) (Val.same (v' := .bool true) (Val.pick rfl rfl rfl) (rfl)) ?_
    refine TL.val rfl rfl (Nat.le_of_ble_eq_true rfl) (Val.move rfl) ?_
    refine TL.valYes rfl rfl (Nat.le_of_ble_eq_true rfl) rfl (Nat.le_of_ble_eq_true rfl) rfl (Val.move rfl) ?_
    refine TL.valYes rfl rfl (Nat.le_of_ble_eq_true rfl) rfl (Nat.le_of_ble_eq_true rfl) rfl (Val.same (v' := .bool true) (Val.eqlI rfl rfl) (rfl)) ?_
    first
      | refine TL.val rfl rfl (Nat.le_of_ble_eq_true rfl) (Val.same (v' := .bool true) (Val.pickAnd rfl rfl rfl) (rfl)) ?_
      | refine TL.val rfl rfl (Nat.le_of_ble_eq_true rfl) (Val.same (v' := .bool true) (Val.pickOr rfl rfl rfl) (rfl)) ?_
      | refine TL.val rfl rfl (Nat.le_of_ble_eq_true rfl) (Val.same (v' := .bool true) (Val.pick rfl rfl rfl) (rfl)) ?_
    refine TL.val rfl rfl (Nat.le_of_ble_eq_true rfl) (Val.assign rfl) ?_
    refine TL.nil ?_
    refine AtX.then ?_
    refine TC.env (E' := [(4, _)]) (Sub.cons rfl (Sub.nil _)) ?_
    refine TC.ret1 (fn := Try.f9) (fun _ _ h => h) rfl (RV.tmp rfl) (M' := M) (by repeat (first | exact ro_refl | exact ro_pre | refine ro_tail ?_ | refine ro_app ?_)) ?_
    exact ⟨rfl, rfl⟩

end Go.Proofs.Ytphoapajlcaoeaa
