/- Texts put together: A29, A30, A31, A32, A33, A34, A35, A36. -/
import Derived.Test.YtphoapajlcaoeaaW2
import Derived.Test.YtphoapajlcaoeaaG1
import Derived.Test.YtphoapajlcaoeaaG2
/- walks -/
set_option linter.unusedVariables false
set_option linter.unusedSimpArgs false
set_option maxRecDepth 100000
set_option maxHeartbeats 4000000
namespace Go.Proofs.Ytphoapajlcaoeaa
open Go Go.X
/-- (*quorumite/verify.Gate).Check -/
theorem Check_nil (gb rb lb nb cn ob co : Nat) (sn so : List Value) (c : Cf) (N : Nat) (asked ref : Int) (ones : List On) (nws ols : List Nat) (T : Hp) (hN : c.n = N) (h1 : ones.length = N) (h2 : nws.length = N) (h3 : ols.length = N) (hgr : 1 ≤ c.grace ∧ c.grace ≤ 100) (has : 0 ≤ asked ∧ asked ≤ 90000) (k : Nat) (x : On) (hx : ones[k]? = some x) (hxb : 0 ≤ x.gen ∧ x.gen ≤ 60000) (hxs : 0 ≤ x.since ∧ x.since ≤ 1099511627776) (kind gen sq ep va me : Int) (hgen : -1000000 ≤ gen ∧ gen ≤ 1000000) (hk2 : kind = 2 → gen - 1 = x.gen) (now : Int) (hc : OkC c) (p p2 : Nat) (hp : nws[k]? = some p) (hp2 : ols[k]? = some p2) (ip : Nat) (top bits rr : Int) (htop : 0 ≤ top ∧ top ≤ 1000000) (hrep : T[ip]? = some (repO (if sgen kind gen = x.gen then p else p2) c.window top bits rr)) (hnow : 0 ≤ now ∧ now ≤ 1099511627776) (hm : mayM ⟨kind, (k : Nat), gen, sq, ep, va, me⟩ = true) (href : 0 ≤ ref ∧ ref ≤ 100000) (tl : List UInt8) (A : Option Addr) (cc : Nat) (hA : RdS T A (bv (putM ⟨kind, (k : Nat), gen, sq, ep, va, me⟩ ++ tl))) (hcc : 48 ≤ cc) (htl : tl.length = 16)  : FnC Try.prog 32 #[.pointer (some ⟨gb, 0, none⟩), .slice A 48 cc, .int .i64 now, .nilFunc] (gateO gb c rb (some ⟨nb, 0, none⟩) N cn (some ⟨ob, 0, none⟩) N co ref :: ringO rb c.seed lb N c.grace asked :: (lb, row 161 (ones.flatMap On.cs)) :: (nb, row 118 (nws.map pp ++ sn)) :: (ob, row 118 (ols.map pp ++ so)) :: T) (fun v M' => ((chkC (okK x (sgen kind gen) now c.grace) (decide (bitsOf .or .u64 (xor64 (tagOf (if okK x (sgen kind gen) now c.grace = true then (macKey c.seed (k : Nat) (sgen kind gen)) else ⟨0, 0⟩) (putM ⟨kind, (k : Nat), gen, sq, ep, va, me⟩)).a (⟨((get8 tl 0 : Nat) : Int), ((get8 tl 8 : Nat) : Int)⟩ : K2).a) (xor64 (tagOf (if okK x (sgen kind gen) now c.grace = true then (macKey c.seed (k : Nat) (sgen kind gen)) else ⟨0, 0⟩) (putM ⟨kind, (k : Nat), gen, sq, ep, va, me⟩)).b (⟨((get8 tl 0 : Nat) : Int), ((get8 tl 8 : Nat) : Int)⟩ : K2).b) = 0)) (mayP c.window top bits sq) (decide (ep < now) || decide (c.fresh ≤ IntKind.u64.wrap (ep - now))) (decide (me < c.m))) = 0 ∧ v = .tuple #[.agg #[.int .i64 kind, .int .i64 ((k : Nat) : Int), .int .i64 gen, .int .i64 sq, .int .i64 ep, .int .i64 va, .int .i64 me], .int .i64 0] ∧ M' = (gateO gb c rb (some ⟨nb, 0, none⟩) N cn (some ⟨ob, 0, none⟩) N co ref :: ringO rb c.seed lb N c.grace (asked + 1) :: (lb, row 161 (ones.flatMap On.cs)) :: (nb, row 118 (nws.map pp ++ sn)) :: (ob, row 118 (ols.map pp ++ so)) :: T)) ∨ ((chkC (okK x (sgen kind gen) now c.grace) (decide (bitsOf .or .u64 (xor64 (tagOf (if okK x (sgen kind gen) now c.grace = true then (macKey c.seed (k : Nat) (sgen kind gen)) else ⟨0, 0⟩) (putM ⟨kind, (k : Nat), gen, sq, ep, va, me⟩)).a (⟨((get8 tl 0 : Nat) : Int), ((get8 tl 8 : Nat) : Int)⟩ : K2).a) (xor64 (tagOf (if okK x (sgen kind gen) now c.grace = true then (macKey c.seed (k : Nat) (sgen kind gen)) else ⟨0, 0⟩) (putM ⟨kind, (k : Nat), gen, sq, ep, va, me⟩)).b (⟨((get8 tl 0 : Nat) : Int), ((get8 tl 8 : Nat) : Int)⟩ : K2).b) = 0)) (mayP c.window top bits sq) (decide (ep < now) || decide (c.fresh ≤ IntKind.u64.wrap (ep - now))) (decide (me < c.m))) ≠ 0 ∧ v = .tuple #[.agg #[.int .i64 0, .int .i64 0, .int .i64 0, .int .i64 0, .int .i64 0, .int .i64 0, .int .i64 0], .int .i64 (chkC (okK x (sgen kind gen) now c.grace) (decide (bitsOf .or .u64 (xor64 (tagOf (if okK x (sgen kind gen) now c.grace = true then (macKey c.seed (k : Nat) (sgen kind gen)) else ⟨0, 0⟩) (putM ⟨kind, (k : Nat), gen, sq, ep, va, me⟩)).a (⟨((get8 tl 0 : Nat) : Int), ((get8 tl 8 : Nat) : Int)⟩ : K2).a) (xor64 (tagOf (if okK x (sgen kind gen) now c.grace = true then (macKey c.seed (k : Nat) (sgen kind gen)) else ⟨0, 0⟩) (putM ⟨kind, (k : Nat), gen, sq, ep, va, me⟩)).b (⟨((get8 tl 0 : Nat) : Int), ((get8 tl 8 : Nat) : Int)⟩ : K2).b) = 0)) (mayP c.window top bits sq) (decide (ep < now) || decide (c.fresh ≤ IntKind.u64.wrap (ep - now))) (decide (me < c.m)))] ∧ M' = (gateO gb c rb (some ⟨nb, 0, none⟩) N cn (some ⟨ob, 0, none⟩) N co (ref + 1) :: ringO rb c.seed lb N c.grace (asked + 1) :: (lb, row 161 (ones.flatMap On.cs)) :: (nb, row 118 (nws.map pp ++ sn)) :: (ob, row 118 (ols.map pp ++ so)) :: T))) := by
  obtain ⟨C, hC⟩ : ∃ C, C = chkC (okK x (sgen kind gen) now c.grace) (decide (bitsOf .or .u64 (xor64 (tagOf (if okK x (sgen kind gen) now c.grace = true then (macKey c.seed (k : Nat) (sgen kind gen)) else ⟨0, 0⟩) (putM ⟨kind, (k : Nat), gen, sq, ep, va, me⟩)).a (⟨((get8 tl 0 : Nat) : Int), ((get8 tl 8 : Nat) : Int)⟩ : K2).a) (xor64 (tagOf (if okK x (sgen kind gen) now c.grace = true then (macKey c.seed (k : Nat) (sgen kind gen)) else ⟨0, 0⟩) (putM ⟨kind, (k : Nat), gen, sq, ep, va, me⟩)).b (⟨((get8 tl 0 : Nat) : Int), ((get8 tl 8 : Nat) : Int)⟩ : K2).b) = 0)) (mayP c.window top bits sq) (decide (ep < now) || decide (c.fresh ≤ IntKind.u64.wrap (ep - now))) (decide (me < c.m)) := ⟨_, rfl⟩
  rw [← hC]
  have hmi := mayM_iff.1 hm
  simp only at hmi
  refine FnC.intro Try.func32 rfl 42 rfl (by simp) (fun z => ?_)
  refine TC.env (E' := [(0, _), (1, _), (2, _), (3, _)]) (Sub.cons rfl (Sub.cons rfl (Sub.cons rfl (Sub.cons rfl (Sub.nil _))))) ?_
  refine TC.seq ?_
  refine TC.region ?_
  refine TL.does (some 8) rfl rfl rfl (Does.alloc ze61 rfl) ?_
  rintro _ _ ⟨b1, rfl, rfl⟩
  refine TL.val rfl rfl (Nat.le_of_ble_eq_true rfl) (Val.assign rfl) ?_
  refine TL.nil ?_
  refine AtX.then ?_
  refine TC.seq ?_
  refine TC.seq ?_
  refine TC.region ?_
  refine TL.val rfl rfl (Nat.le_of_ble_eq_true rfl) (Val.move rfl) ?_
  refine TL.val rfl rfl (Nat.le_of_ble_eq_true rfl) (Val.eqlNil rfl rfl pt55) ?_
  refine TL.nil ?_
  refine AtX.then ?_
  refine TC.env (E' := [(0, _), (1, _), (2, _), (3, _), (8, _), (9, _), (15, _)]) (Sub.cons rfl (Sub.cons rfl (Sub.cons rfl (Sub.cons rfl (Sub.cons rfl (Sub.cons rfl (Sub.cons rfl (Sub.nil _)))))))) ?_
  first | refine TC.condP rfl (fun c1 => ?_) (fun c1 => ?_) | refine TC.condN rfl (fun c1 => ?_) (fun c1 => ?_) | refine TC.condB rfl (fun c1 => ?_) (fun c1 => ?_) | refine TC.cond rfl (fun c1 => ?_) (fun c1 => ?_)
  · skip
    (exfalso; simp at c1)
  · skip
    refine TC.env (E' := [(0, _), (1, _), (2, _), (3, _), (8, _), (9, _)]) (Sub.cons rfl (Sub.cons rfl (Sub.cons rfl (Sub.cons rfl (Sub.cons rfl (Sub.cons rfl (Sub.nil _))))))) ?_
    refine TC.skip ?_
    refine AtX.then ?_
    refine TC.env (E' := [(0, _), (1, _), (2, _), (3, _), (8, _), (9, _)]) (Sub.cons rfl (Sub.cons rfl (Sub.cons rfl (Sub.cons rfl (Sub.cons rfl (Sub.cons rfl (Sub.nil _))))))) ?_
    refine TC.seq ?_
    refine TC.region ?_
    refine TL.val rfl rfl (Nat.le_of_ble_eq_true rfl) (Val.move rfl) ?_
    refine TL.does (some 19) rfl rfl rfl (Does.callF go42 rfl (Split_fn ⟨kind, (k : Nat), gen, sq, ep, va, me⟩ tl A 48 cc _ ((((((hA.cons _).cons _).cons _).cons _).cons _).cons _) rfl hcc htl hm)) ?_
    rintro _ _ ⟨σ, rfl, hokσ, rfl⟩
    obtain ⟨bc, cc2, spc, rfl, hcc2⟩ := hokσ.some (by omega)
    refine TL.val rfl rfl (Nat.le_of_ble_eq_true rfl) (Val.move rfl) ?_
    refine TL.val rfl rfl (Nat.le_of_ble_eq_true rfl) (Val.extract rfl rfl) ?_
    refine TL.val rfl rfl (Nat.le_of_ble_eq_true rfl) (Val.extract rfl rfl) ?_
    refine TL.val rfl rfl (Nat.le_of_ble_eq_true rfl) (Val.extract rfl rfl) ?_
    refine TL.val rfl rfl (Nat.le_of_ble_eq_true rfl) (Val.extract rfl rfl) ?_
    refine TL.does (some 10) rfl rfl rfl (Does.alloc ze61 rfl) ?_
    rintro _ _ ⟨bM, rfl, rfl⟩
    refine TL.does (some 12) rfl rfl rfl (Does.alloc ze73 rfl) ?_
    rintro _ _ ⟨bT_, rfl, rfl⟩
    refine TL.does none rfl rfl rfl (Does.store (i := 1) rfl rfl rfl sz61 rfl rfl (by first | exact Nat.le_of_ble_eq_true rfl | decide | omega) rfl rfl) ?_
    rintro _ _ ⟨rfl, rfl⟩
    refine TL.val rfl rfl (Nat.le_of_ble_eq_true rfl) (Val.assign rfl) ?_
    refine TL.does none rfl rfl rfl (Does.store (i := 0) rfl rfl rfl sz73 rfl rfl (by first | exact Nat.le_of_ble_eq_true rfl | decide | omega) rfl rfl) ?_
    rintro _ _ ⟨rfl, rfl⟩
    refine TL.val rfl rfl (Nat.le_of_ble_eq_true rfl) (Val.assign rfl) ?_
    refine TL.nil ?_
    refine AtX.then ?_
    refine TC.env (E' := [(0, _), (2, _), (3, _), (8, _), (9, _), (10, _), (11, _), (12, _), (13, _)]) (Sub.cons rfl (Sub.cons rfl (Sub.cons rfl (Sub.cons rfl (Sub.cons rfl (Sub.cons rfl (Sub.cons rfl (Sub.cons rfl (Sub.cons rfl (Sub.nil _)))))))))) ?_
    refine TC.seq ?_
    refine TC.seq ?_
    refine TC.heap (M' := (gateO gb c rb (some ⟨nb, 0, none⟩) N cn (some ⟨ob, 0, none⟩) N co ref :: ringO rb c.seed lb N c.grace asked :: (lb, row 161 (ones.flatMap On.cs)) :: (nb, row 118 (nws.map pp ++ sn)) :: (ob, row 118 (ols.map pp ++ so)) :: ((bT_, .cells #[.int .u64 ((get8 tl 0 : Nat) : Int), .int .u64 ((get8 tl 8 : Nat) : Int)] 73 (0, 0)) :: (bM, .cells #[.int .i64 kind, .int .i64 ((k : Nat) : Int), .int .i64 gen, .int .i64 sq, .int .i64 ep, .int .i64 va, .int .i64 me] 61 (0, 0)) :: (bc, row 5 (bv (putM ⟨kind, (k : Nat), gen, sq, ep, va, me⟩) ++ spc)) :: (b1, .cells #[.int .i64 0, .int .i64 0, .int .i64 0, .int .i64 0, .int .i64 0, .int .i64 0, .int .i64 0] 61 (0, 0)) :: T))) (fun w h => ro_mv (A := [_, _, _, _]) (L := [_, _, _, _, _]) w h) ?_
    refine TC.region ?_
    refine TL.val rfl rfl (Nat.le_of_ble_eq_true rfl) (Val.move rfl) ?_
    refine TL.val rfl rfl (Nat.le_of_ble_eq_true rfl) (Val.eqlI rfl rfl) ?_
    refine TL.nil ?_
    refine AtX.then ?_
    refine TC.env (E' := [(0, _), (2, _), (3, _), (8, _), (9, _), (10, _), (11, _), (12, _), (13, _), (25, _)]) (Sub.cons rfl (Sub.cons rfl (Sub.cons rfl (Sub.cons rfl (Sub.cons rfl (Sub.cons rfl (Sub.cons rfl (Sub.cons rfl (Sub.cons rfl (Sub.cons rfl (Sub.nil _))))))))))) ?_
    first | refine TC.condP rfl (fun c2 => ?_) (fun c2 => ?_) | refine TC.condN rfl (fun c2 => ?_) (fun c2 => ?_) | refine TC.condB rfl (fun c2 => ?_) (fun c2 => ?_) | refine TC.cond rfl (fun c2 => ?_) (fun c2 => ?_)
    · skip
      refine TC.env (E' := [(0, _), (2, _), (3, _), (8, _), (9, _), (10, _), (11, _), (12, _), (13, _)]) (Sub.cons rfl (Sub.cons rfl (Sub.cons rfl (Sub.cons rfl (Sub.cons rfl (Sub.cons rfl (Sub.cons rfl (Sub.cons rfl (Sub.cons rfl (Sub.nil _)))))))))) ?_
      refine TC.region ?_
      refine TL.val rfl rfl (Nat.le_of_ble_eq_true rfl) (Val.move rfl) ?_
      refine TL.val rfl rfl (Nat.le_of_ble_eq_true rfl) (Val.loadAgg 6 rfl ag61 sz61 rfl rfl rfl) ?_
      refine TL.val rfl rfl (Nat.le_of_ble_eq_true rfl) (Val.move rfl) ?_
      refine TL.val rfl rfl (Nat.le_of_ble_eq_true rfl) (Val.loadAgg 5 rfl ag73 sz73 rfl rfl rfl) ?_
      refine TL.val rfl rfl (Nat.le_of_ble_eq_true rfl) (Val.move rfl) ?_
      refine TL.val rfl rfl (Nat.le_of_ble_eq_true rfl) (Val.move rfl) ?_
      refine TL.does (some 32) rfl rfl rfl (Does.callF go63 rfl (check_nil gb rb lb nb cn ob co sn so c N asked ref ones nws ols _ hN h1 h2 h3 hgr has k x hx hxb hxs kind gen sq ep va me hgen hk2 now hc p p2 hp hp2 (ip + 4) top bits rr htop hrep ⟨by omega, by omega⟩ ⟨by omega, by omega⟩ hnow (putM ⟨kind, (k : Nat), gen, sq, ep, va, me⟩) _ 32 cc2 (rd_all (i := 2) rfl) (by simp) (by simp) ⟨((get8 tl 0 : Nat) : Int), ((get8 tl 8 : Nat) : Int)⟩)) ?_
      rintro _ _ ⟨rfl, rfl⟩
      rw [← hC]
      refine TL.val rfl rfl (Nat.le_of_ble_eq_true rfl) (Val.assign rfl) ?_
      refine TL.nil ?_
      refine AtX.then ?_
      refine TC.env (E' := [(0, _), (8, _), (9, _), (10, _), (13, _)]) (Sub.cons rfl (Sub.cons rfl (Sub.cons rfl (Sub.cons rfl (Sub.cons rfl (Sub.nil _)))))) ?_
      refine TC.seq ?_
      refine TC.seq ?_
      refine TC.region ?_
      refine TL.val rfl rfl (Nat.le_of_ble_eq_true rfl) (Val.move rfl) ?_
      refine TL.val rfl rfl (Nat.le_of_ble_eq_true rfl) (Val.neqI rfl rfl) ?_
      refine TL.nil ?_
      refine AtX.then ?_
      refine TC.env (E' := [(0, _), (8, _), (9, _), (10, _), (13, _), (34, _)]) (Sub.cons rfl (Sub.cons rfl (Sub.cons rfl (Sub.cons rfl (Sub.cons rfl (Sub.cons rfl (Sub.nil _))))))) ?_
      first | refine TC.condP rfl (fun c3 => ?_) (fun c3 => ?_) | refine TC.condN rfl (fun c3 => ?_) (fun c3 => ?_) | refine TC.condB rfl (fun c3 => ?_) (fun c3 => ?_) | refine TC.cond rfl (fun c3 => ?_) (fun c3 => ?_)
      · skip
        refine TC.env (E' := [(0, _), (8, _), (9, _), (10, _), (13, _)]) (Sub.cons rfl (Sub.cons rfl (Sub.cons rfl (Sub.cons rfl (Sub.cons rfl (Sub.nil _)))))) ?_
        refine TC.seq ?_
        refine TC.region ?_
        refine TL.val rfl rfl (Nat.le_of_ble_eq_true rfl) (Val.move rfl) ?_
        refine TL.val rfl rfl (Nat.le_of_ble_eq_true rfl) (Val.nilCheck rfl) ?_
        refine TL.val rfl rfl (Nat.le_of_ble_eq_true rfl) (Val.fieldAddr rfl fl117_4 sz92 rfl) ?_
        refine TL.does (some 38) rfl rfl rfl (Does.callF go52 rfl (aAdd_fn gb 29 0 _ _ ref 1 (ref + 1) _ rfl rfl (w_i64 (by omega) (by omega)))) ?_
        rintro _ _ ⟨rfl, rfl⟩
        refine TL.nil ?_
        refine AtX.then ?_
        refine TC.env (E' := [(8, _), (9, _), (10, _), (13, _)]) (Sub.cons rfl (Sub.cons rfl (Sub.cons rfl (Sub.cons rfl (Sub.nil _))))) ?_
        refine TC.seq ?_
        refine TC.region ?_
        refine TL.val rfl rfl (Nat.le_of_ble_eq_true rfl) (Val.buildS pl61 ze61 rfl rfl) ?_
        refine TL.val rfl rfl (Nat.le_of_ble_eq_true rfl) (Val.move rfl) ?_
        refine TL.does none rfl rfl rfl (Does.store (i := 8) rfl rfl rfl sz61 rfl rfl (by first | exact Nat.le_of_ble_eq_true rfl | decide | omega) rfl rfl) ?_
        rintro _ _ ⟨rfl, rfl⟩
        refine TL.val rfl rfl (Nat.le_of_ble_eq_true rfl) (Val.assign rfl) ?_
        refine TL.nil ?_
        refine AtX.then ?_
        refine TC.env (E' := [(8, _), (9, _), (10, _)]) (Sub.cons rfl (Sub.cons rfl (Sub.cons rfl (Sub.nil _)))) ?_
        refine TC.ret2 (fn := Try.f32) (fun _ _ h => h) rfl (RV.agg (i := 8) rfl ag61 sz61 rfl rfl rfl) (RV.tmp rfl) (M' := (gateO gb c rb (some ⟨nb, 0, none⟩) N cn (some ⟨ob, 0, none⟩) N co (ref + 1) :: ringO rb c.seed lb N c.grace (asked + 1) :: (lb, row 161 (ones.flatMap On.cs)) :: (nb, row 118 (nws.map pp ++ sn)) :: (ob, row 118 (ols.map pp ++ so)) :: T)) (fun w h => (ro_mv (A := [_, _, _, _, _]) (L := [_, _, _, _]) w h).drop.drop.drop.drop) ?_
        first | exact .inl ⟨by omega, rfl, rfl⟩ | exact .inr ⟨by assumption, rfl, rfl⟩
      · skip
        refine TC.env (E' := [(8, _), (9, _), (10, _)]) (Sub.cons rfl (Sub.cons rfl (Sub.cons rfl (Sub.nil _)))) ?_
        refine TC.skip ?_
        refine AtX.then ?_
        refine TC.env (E' := [(8, _), (9, _), (10, _)]) (Sub.cons rfl (Sub.cons rfl (Sub.cons rfl (Sub.nil _)))) ?_
        refine TC.seq ?_
        refine TC.region ?_
        refine TL.val rfl rfl (Nat.le_of_ble_eq_true rfl) (Val.loadAgg 6 rfl ag61 sz61 rfl rfl rfl) ?_
        refine TL.does none rfl rfl rfl (Does.store (i := 8) rfl rfl rfl sz61 rfl rfl (by first | exact Nat.le_of_ble_eq_true rfl | decide | omega) rfl rfl) ?_
        rintro _ _ ⟨rfl, rfl⟩
        refine TL.val rfl rfl (Nat.le_of_ble_eq_true rfl) (Val.assign rfl) ?_
        refine TL.nil ?_
        refine AtX.then ?_
        refine TC.env (E' := [(8, _), (9, _)]) (Sub.cons rfl (Sub.cons rfl (Sub.nil _))) ?_
        refine TC.ret2 (fn := Try.f32) (fun _ _ h => h) rfl (RV.agg (i := 8) rfl ag61 sz61 rfl rfl rfl) (RV.tmp rfl) (M' := (gateO gb c rb (some ⟨nb, 0, none⟩) N cn (some ⟨ob, 0, none⟩) N co ref :: ringO rb c.seed lb N c.grace (asked + 1) :: (lb, row 161 (ones.flatMap On.cs)) :: (nb, row 118 (nws.map pp ++ sn)) :: (ob, row 118 (ols.map pp ++ so)) :: T)) (fun w h => (ro_mv (A := [_, _, _, _, _]) (L := [_, _, _, _]) w h).drop.drop.drop.drop) ?_
        first | exact .inl ⟨by omega, rfl, rfl⟩ | exact .inr ⟨by assumption, rfl, rfl⟩
    · skip
      exact absurd rfl c2

end Go.Proofs.Ytphoapajlcaoeaa
/- walks -/
set_option linter.unusedVariables false
set_option linter.unusedSimpArgs false
set_option maxRecDepth 100000
set_option maxHeartbeats 4000000
namespace Go.Proofs.Ytphoapajlcaoeaa
open Go Go.X
/-- quorumite/verify.New -/
theorem gNew_nil (c : Cf) (M : Hp) (hn : 0 ≤ c.n ∧ c.n ≤ 1000) (hf : 0 ≤ c.f ∧ c.f ≤ 16) (ht : tg c) (h1 : c.n < 1) : FnC Try.prog 29 #[.agg #[.int .i64 (c.n), .int .i64 (c.f), .int .i64 (c.m), .int .i64 (c.quorum), .int .i64 (c.fresh), .int .i64 (c.grace), .int .i64 (c.window), .int .i64 (c.t0), .int .i64 (c.t1), .int .i64 (c.t2), .int .i64 (c.t3), .int .i64 (c.tol), .int .i64 (c.min), .int .i64 (c.max), .int .i64 (c.calmup), .int .i64 (c.calmdown), .int .i64 (c.podsup), .int .i64 (c.pctup), .int .i64 (c.podsdown), .int .i64 (c.pctdown), .int .i64 (c.period), .int .i64 (c.far), .int .i64 (c.strikes), .int .i64 (c.probe), .int .i64 (c.sectors), .int .u64 (c.seed)]] M (fun v M' => v = .pointer none ∧ M = M') := by
  refine FnC.intro Try.func29 rfl 47 rfl (by simp) (fun z => ?_)
  refine TC.env (E' := [(0, _)]) (Sub.cons rfl (Sub.nil _)) ?_
  refine TC.seq ?_
  refine TC.region ?_
  refine TL.does (some 1) rfl rfl rfl (Does.box rfl rfl) ?_
  rintro _ _ ⟨b1, rfl, rfl⟩
  refine TL.val rfl rfl (Nat.le_of_ble_eq_true rfl) (Val.assign rfl) ?_
  refine TL.nil ?_
  refine AtX.then ?_
  refine TC.env (E' := [(1, _), (2, _)]) (Sub.cons rfl (Sub.cons rfl (Sub.nil _))) ?_
  refine TC.seq ?_
  refine TC.seq ?_
  refine TC.region ?_
  refine TL.val rfl rfl (Nat.le_of_ble_eq_true rfl) (Val.loadAgg 0 rfl ag26 sz26 rfl rfl rfl) ?_
  refine TL.does (some 5) rfl rfl rfl (Does.callF go44 rfl (cMay_no c _ hn hf ht h1)) ?_
  rintro _ _ ⟨rfl, rfl⟩
  refine TL.val rfl rfl (Nat.le_of_ble_eq_true rfl) (Val.not rfl) ?_
  refine TL.nil ?_
  refine AtX.then ?_
  refine TC.env (E' := [(1, _), (2, _), (6, _)]) (Sub.cons rfl (Sub.cons rfl (Sub.cons rfl (Sub.nil _)))) ?_
  first | refine TC.condP rfl (fun c1 => ?_) (fun c1 => ?_) | refine TC.condN rfl (fun c1 => ?_) (fun c1 => ?_) | refine TC.condB rfl (fun c1 => ?_) (fun c1 => ?_) | refine TC.cond rfl (fun c1 => ?_) (fun c1 => ?_)
  · skip
    refine TC.env (E' := [(1, _), (2, _)]) (Sub.cons rfl (Sub.cons rfl (Sub.nil _))) ?_
    refine TC.seq ?_
    refine TC.region ?_
    refine TL.val rfl rfl (Nat.le_of_ble_eq_true rfl) (Val.assign rfl) ?_
    refine TL.nil ?_
    refine AtX.then ?_
    refine TC.env (E' := [(1, _), (2, _)]) (Sub.cons rfl (Sub.cons rfl (Sub.nil _))) ?_
    refine TC.ret1 (fn := Try.f29) (fun _ _ h => h) rfl (RV.tmp rfl) (M' := M) (by repeat (first | exact ro_refl | exact ro_pre | refine ro_tail ?_ | refine ro_app ?_)) ?_
    exact ⟨rfl, rfl⟩
  · skip
    cases c1

/-- (*quorumite/verify.Gate).Ring -/
theorem gRing_fn (gb rb lb nb cn ob co : Nat) (sn so : List Value) (c : Cf) (N : Nat) (asked ref : Int) (ones : List On) (nws ols : List Nat) (T : Hp)  : FnC Try.prog 70 #[.pointer (some ⟨gb, 0, none⟩)] (gateO gb c rb (some ⟨nb, 0, none⟩) N cn (some ⟨ob, 0, none⟩) N co ref :: ringO rb c.seed lb N c.grace asked :: (lb, row 161 (ones.flatMap On.cs)) :: (nb, row 118 (nws.map pp ++ sn)) :: (ob, row 118 (ols.map pp ++ so)) :: T) (fun v M' => v = .pointer (some ⟨rb, 0, none⟩) ∧ (gateO gb c rb (some ⟨nb, 0, none⟩) N cn (some ⟨ob, 0, none⟩) N co ref :: ringO rb c.seed lb N c.grace asked :: (lb, row 161 (ones.flatMap On.cs)) :: (nb, row 118 (nws.map pp ++ sn)) :: (ob, row 118 (ols.map pp ++ so)) :: T) = M') := by
  refine FnC.intro Try.func70 rfl 9 rfl (by simp) (fun z => ?_)
  refine TC.env (E' := [(0, _)]) (Sub.cons rfl (Sub.nil _)) ?_
  refine TC.seq ?_
  refine TC.region ?_
  refine TL.val rfl rfl (Nat.le_of_ble_eq_true rfl) (Val.assign rfl) ?_
  refine TL.nil ?_
  refine AtX.then ?_
  refine TC.seq ?_
  refine TC.seq ?_
  refine TC.region ?_
  refine TL.val rfl rfl (Nat.le_of_ble_eq_true rfl) (Val.move rfl) ?_
  refine TL.val rfl rfl (Nat.le_of_ble_eq_true rfl) (Val.eqlNil rfl rfl pt55) ?_
  refine TL.nil ?_
  refine AtX.then ?_
  refine TC.env (E' := [(0, _), (2, _), (4, _)]) (Sub.cons rfl (Sub.cons rfl (Sub.cons rfl (Sub.nil _)))) ?_
  first | refine TC.condP rfl (fun c1 => ?_) (fun c1 => ?_) | refine TC.condN rfl (fun c1 => ?_) (fun c1 => ?_) | refine TC.condB rfl (fun c1 => ?_) (fun c1 => ?_) | refine TC.cond rfl (fun c1 => ?_) (fun c1 => ?_)
  · skip
    (exfalso; simp at c1)
  · skip
    refine TC.env (E' := [(0, _), (2, _)]) (Sub.cons rfl (Sub.cons rfl (Sub.nil _))) ?_
    refine TC.skip ?_
    refine AtX.then ?_
    refine TC.env (E' := [(0, _), (2, _)]) (Sub.cons rfl (Sub.cons rfl (Sub.nil _))) ?_
    refine TC.seq ?_
    refine TC.region ?_
    refine TL.val rfl rfl (Nat.le_of_ble_eq_true rfl) (Val.move rfl) ?_
    refine TL.val rfl rfl (Nat.le_of_ble_eq_true rfl) (Val.nilCheck rfl) ?_
    refine TL.val rfl rfl (Nat.le_of_ble_eq_true rfl) (Val.fieldAddr rfl fl117_1 sz113 rfl) ?_
    refine TL.val rfl rfl (Nat.le_of_ble_eq_true rfl) (Val.load 0 rfl ag113 rfl rfl) ?_
    refine TL.val rfl rfl (Nat.le_of_ble_eq_true rfl) (Val.assign rfl) ?_
    refine TL.nil ?_
    refine AtX.then ?_
    refine TC.env (E' := [(2, _)]) (Sub.cons rfl (Sub.nil _)) ?_
    refine TC.ret1 (fn := Try.f70) (fun _ _ h => h) rfl (RV.tmp rfl) (fun _ h => h) ?_
    exact ⟨rfl, rfl⟩

/-- (*quorumite/verify.Gate).Replay -/
theorem gReplay_fn (gb rb lb nb cn ob co : Nat) (sn so : List Value) (c : Cf) (N : Nat) (asked ref : Int) (ones : List On) (nws ols : List Nat) (T : Hp) (k : Nat) (hkN : k < N) (p : Nat) (hp : nws[k]? = some p) : FnC Try.prog 72 #[.pointer (some ⟨gb, 0, none⟩), .int .i64 (k : Nat)] (gateO gb c rb (some ⟨nb, 0, none⟩) N cn (some ⟨ob, 0, none⟩) N co ref :: ringO rb c.seed lb N c.grace asked :: (lb, row 161 (ones.flatMap On.cs)) :: (nb, row 118 (nws.map pp ++ sn)) :: (ob, row 118 (ols.map pp ++ so)) :: T) (fun v M' => v = .pointer (some ⟨p, 0, none⟩) ∧ (gateO gb c rb (some ⟨nb, 0, none⟩) N cn (some ⟨ob, 0, none⟩) N co ref :: ringO rb c.seed lb N c.grace asked :: (lb, row 161 (ones.flatMap On.cs)) :: (nb, row 118 (nws.map pp ++ sn)) :: (ob, row 118 (ols.map pp ++ so)) :: T) = M') := by
  refine FnC.intro Try.func72 rfl 27 rfl (by simp) (fun z => ?_)
  refine TC.env (E' := [(0, _), (1, _)]) (Sub.cons rfl (Sub.cons rfl (Sub.nil _))) ?_
  refine TC.seq ?_
  refine TC.region ?_
  refine TL.val rfl rfl (Nat.le_of_ble_eq_true rfl) (Val.assign rfl) ?_
  refine TL.nil ?_
  refine AtX.then ?_
  refine TC.seq ?_
  refine TC.seq ?_
  refine TC.region ?_
  refine TL.val rfl rfl (Nat.le_of_ble_eq_true rfl) (Val.move rfl) ?_
  refine TL.val rfl rfl (Nat.le_of_ble_eq_true rfl) (Val.eqlNil rfl rfl pt55) ?_
  refine TL.val rfl rfl (Nat.le_of_ble_eq_true rfl) (Val.move rfl) ?_
  refine TL.gen (fun g1 hg1 => ?_)
  refine TL.gval rfl rfl (Nat.le_of_ble_eq_true rfl) rfl (Nat.le_of_ble_eq_true rfl) rfl (fun hg => by subst hg; exact (Val.move rfl)) ?_
  refine TL.gval rfl rfl (Nat.le_of_ble_eq_true rfl) rfl (Nat.le_of_ble_eq_true rfl) rfl (fun hg => by subst hg; exact (Val.lss rfl rfl)) ?_
  refine TL.val rfl rfl (Nat.le_of_ble_eq_true rfl) (Val.pickOr rfl rfl rfl) ?_
  refine TL.val rfl rfl (Nat.le_of_ble_eq_true rfl) (Val.move rfl) ?_
  refine TL.gen (fun g2 hg2 => ?_)
  refine TL.gval rfl rfl (Nat.le_of_ble_eq_true rfl) rfl (Nat.le_of_ble_eq_true rfl) rfl (fun hg => by subst hg; exact (Val.move rfl)) ?_
  refine TL.gval rfl rfl (Nat.le_of_ble_eq_true rfl) rfl (Nat.le_of_ble_eq_true rfl) rfl (fun hg => by subst hg; exact (Val.move rfl)) ?_
  refine TL.gval rfl rfl (Nat.le_of_ble_eq_true rfl) rfl (Nat.le_of_ble_eq_true rfl) rfl (fun hg => by subst hg; exact (Val.nilCheck rfl)) ?_
  refine TL.gval rfl rfl (Nat.le_of_ble_eq_true rfl) rfl (Nat.le_of_ble_eq_true rfl) rfl (fun hg => by subst hg; exact (Val.fieldAddr rfl fl117_2 sz115 rfl)) ?_
  refine TL.gval rfl rfl (Nat.le_of_ble_eq_true rfl) rfl (Nat.le_of_ble_eq_true rfl) rfl (fun hg => by subst hg; exact (Val.load 0 rfl ag115 rfl rfl)) ?_
  refine TL.gval rfl rfl (Nat.le_of_ble_eq_true rfl) rfl (Nat.le_of_ble_eq_true rfl) rfl (fun hg => by subst hg; exact (Val.lenSl rfl rfl sl115)) ?_
  refine TL.gval rfl rfl (Nat.le_of_ble_eq_true rfl) rfl (Nat.le_of_ble_eq_true rfl) rfl (fun hg => by subst hg; exact (Val.geq rfl rfl)) ?_
  refine TL.val rfl rfl (Nat.le_of_ble_eq_true rfl) (Val.pickOr rfl rfl rfl) ?_
  refine TL.nil ?_
  refine AtX.then ?_
  refine TC.env (E' := [(0, _), (1, _), (4, _), (19, _)]) (Sub.cons rfl (Sub.cons rfl (Sub.cons rfl (Sub.cons rfl (Sub.nil _))))) ?_
  first | refine TC.condP rfl (fun c1 => ?_) (fun c1 => ?_) | refine TC.condN rfl (fun c1 => ?_) (fun c1 => ?_) | refine TC.condB rfl (fun c1 => ?_) (fun c1 => ?_) | refine TC.cond rfl (fun c1 => ?_) (fun c1 => ?_)
  · skip
    (exfalso; grind)
  · skip
    refine TC.env (E' := [(0, _), (1, _), (4, _)]) (Sub.cons rfl (Sub.cons rfl (Sub.cons rfl (Sub.nil _)))) ?_
    refine TC.skip ?_
    refine AtX.then ?_
    refine TC.env (E' := [(0, _), (1, _), (4, _)]) (Sub.cons rfl (Sub.cons rfl (Sub.cons rfl (Sub.nil _)))) ?_
    refine TC.seq ?_
    refine TC.region ?_
    refine TL.val rfl rfl (Nat.le_of_ble_eq_true rfl) (Val.move rfl) ?_
    refine TL.val rfl rfl (Nat.le_of_ble_eq_true rfl) (Val.nilCheck rfl) ?_
    refine TL.val rfl rfl (Nat.le_of_ble_eq_true rfl) (Val.fieldAddr rfl fl117_2 sz115 rfl) ?_
    refine TL.val rfl rfl (Nat.le_of_ble_eq_true rfl) (Val.load 0 rfl ag115 rfl rfl) ?_
    refine TL.val rfl rfl (Nat.le_of_ble_eq_true rfl) (Val.move rfl) ?_
    refine TL.val rfl rfl (Nat.le_of_ble_eq_true rfl) (Val.indexAddr (i := k) (r := k) rfl rfl sl115 sz118 rfl hkN (by omega)) ?_
    refine TL.val rfl rfl (Nat.le_of_ble_eq_true rfl) (Val.loadRd (o := 0) (j := k) rfl ag118 (rd_row0 (i := 3) (l := nws.map pp) rfl) (by omega) (map_get hp)) ?_
    refine TL.val rfl rfl (Nat.le_of_ble_eq_true rfl) (Val.assign rfl) ?_
    refine TL.nil ?_
    refine AtX.then ?_
    refine TC.env (E' := [(4, _)]) (Sub.cons rfl (Sub.nil _)) ?_
    refine TC.ret1 (fn := Try.f72) (fun _ _ h => h) rfl (RV.tmp rfl) (fun _ h => h) ?_
    exact ⟨rfl, rfl⟩

/-- (*quorumite/verify.Gate).Old -/
theorem gOld_fn (gb rb lb nb cn ob co : Nat) (sn so : List Value) (c : Cf) (N : Nat) (asked ref : Int) (ones : List On) (nws ols : List Nat) (T : Hp) (k : Nat) (hkN : k < N) (p : Nat) (hp : ols[k]? = some p) : FnC Try.prog 74 #[.pointer (some ⟨gb, 0, none⟩), .int .i64 (k : Nat)] (gateO gb c rb (some ⟨nb, 0, none⟩) N cn (some ⟨ob, 0, none⟩) N co ref :: ringO rb c.seed lb N c.grace asked :: (lb, row 161 (ones.flatMap On.cs)) :: (nb, row 118 (nws.map pp ++ sn)) :: (ob, row 118 (ols.map pp ++ so)) :: T) (fun v M' => v = .pointer (some ⟨p, 0, none⟩) ∧ (gateO gb c rb (some ⟨nb, 0, none⟩) N cn (some ⟨ob, 0, none⟩) N co ref :: ringO rb c.seed lb N c.grace asked :: (lb, row 161 (ones.flatMap On.cs)) :: (nb, row 118 (nws.map pp ++ sn)) :: (ob, row 118 (ols.map pp ++ so)) :: T) = M') := by
  refine FnC.intro Try.func74 rfl 27 rfl (by simp) (fun z => ?_)
  refine TC.env (E' := [(0, _), (1, _)]) (Sub.cons rfl (Sub.cons rfl (Sub.nil _))) ?_
  refine TC.seq ?_
  refine TC.region ?_
  refine TL.val rfl rfl (Nat.le_of_ble_eq_true rfl) (Val.assign rfl) ?_
  refine TL.nil ?_
  refine AtX.then ?_
  refine TC.seq ?_
  refine TC.seq ?_
  refine TC.region ?_
  refine TL.val rfl rfl (Nat.le_of_ble_eq_true rfl) (Val.move rfl) ?_
  refine TL.val rfl rfl (Nat.le_of_ble_eq_true rfl) (Val.eqlNil rfl rfl pt55) ?_
  refine TL.val rfl rfl (Nat.le_of_ble_eq_true rfl) (Val.move rfl) ?_
  refine TL.gen (fun g1 hg1 => ?_)
  refine TL.gval rfl rfl (Nat.le_of_ble_eq_true rfl) rfl (Nat.le_of_ble_eq_true rfl) rfl (fun hg => by subst hg; exact (Val.move rfl)) ?_
  refine TL.gval rfl rfl (Nat.le_of_ble_eq_true rfl) rfl (Nat.le_of_ble_eq_true rfl) rfl (fun hg => by subst hg; exact (Val.lss rfl rfl)) ?_
  refine TL.val rfl rfl (Nat.le_of_ble_eq_true rfl) (Val.pickOr rfl rfl rfl) ?_
  refine TL.val rfl rfl (Nat.le_of_ble_eq_true rfl) (Val.move rfl) ?_
  refine TL.gen (fun g2 hg2 => ?_)
  refine TL.gval rfl rfl (Nat.le_of_ble_eq_true rfl) rfl (Nat.le_of_ble_eq_true rfl) rfl (fun hg => by subst hg; exact (Val.move rfl)) ?_
  refine TL.gval rfl rfl (Nat.le_of_ble_eq_true rfl) rfl (Nat.le_of_ble_eq_true rfl) rfl (fun hg => by subst hg; exact (Val.move rfl)) ?_
  refine TL.gval rfl rfl (Nat.le_of_ble_eq_true rfl) rfl (Nat.le_of_ble_eq_true rfl) rfl (fun hg => by subst hg; exact (Val.nilCheck rfl)) ?_
  refine TL.gval rfl rfl (Nat.le_of_ble_eq_true rfl) rfl (Nat.le_of_ble_eq_true rfl) rfl (fun hg => by subst hg; exact (Val.fieldAddr rfl fl117_3 sz115 rfl)) ?_
  refine TL.gval rfl rfl (Nat.le_of_ble_eq_true rfl) rfl (Nat.le_of_ble_eq_true rfl) rfl (fun hg => by subst hg; exact (Val.load 0 rfl ag115 rfl rfl)) ?_
  refine TL.gval rfl rfl (Nat.le_of_ble_eq_true rfl) rfl (Nat.le_of_ble_eq_true rfl) rfl (fun hg => by subst hg; exact (Val.lenSl rfl rfl sl115)) ?_
  refine TL.gval rfl rfl (Nat.le_of_ble_eq_true rfl) rfl (Nat.le_of_ble_eq_true rfl) rfl (fun hg => by subst hg; exact (Val.geq rfl rfl)) ?_
  refine TL.val rfl rfl (Nat.le_of_ble_eq_true rfl) (Val.pickOr rfl rfl rfl) ?_
  refine TL.nil ?_
  refine AtX.then ?_
  refine TC.env (E' := [(0, _), (1, _), (4, _), (19, _)]) (Sub.cons rfl (Sub.cons rfl (Sub.cons rfl (Sub.cons rfl (Sub.nil _))))) ?_
  first | refine TC.condP rfl (fun c1 => ?_) (fun c1 => ?_) | refine TC.condN rfl (fun c1 => ?_) (fun c1 => ?_) | refine TC.condB rfl (fun c1 => ?_) (fun c1 => ?_) | refine TC.cond rfl (fun c1 => ?_) (fun c1 => ?_)
  · skip
    (exfalso; grind)
  · skip
    refine TC.env (E' := [(0, _), (1, _), (4, _)]) (Sub.cons rfl (Sub.cons rfl (Sub.cons rfl (Sub.nil _)))) ?_
    refine TC.skip ?_
    refine AtX.then ?_
    refine TC.env (E' := [(0, _), (1, _), (4, _)]) (Sub.cons rfl (Sub.cons rfl (Sub.cons rfl (Sub.nil _)))) ?_
    refine TC.seq ?_
    refine TC.region ?_
    refine TL.val rfl rfl (Nat.le_of_ble_eq_true rfl) (Val.move rfl) ?_
    refine TL.val rfl rfl (Nat.le_of_ble_eq_true rfl) (Val.nilCheck rfl) ?_
    refine TL.val rfl rfl (Nat.le_of_ble_eq_true rfl) (Val.fieldAddr rfl fl117_3 sz115 rfl) ?_
    refine TL.val rfl rfl (Nat.le_of_ble_eq_true rfl) (Val.load 0 rfl ag115 rfl rfl) ?_
    refine TL.val rfl rfl (Nat.le_of_ble_eq_true rfl) (Val.move rfl) ?_
    refine TL.val rfl rfl (Nat.le_of_ble_eq_true rfl) (Val.indexAddr (i := k) (r := k) rfl rfl sl115 sz118 rfl hkN (by omega)) ?_
    refine TL.val rfl rfl (Nat.le_of_ble_eq_true rfl) (Val.loadRd (o := 0) (j := k) rfl ag118 (rd_row0 (i := 4) (l := ols.map pp) rfl) (by omega) (map_get hp)) ?_
    refine TL.val rfl rfl (Nat.le_of_ble_eq_true rfl) (Val.assign rfl) ?_
    refine TL.nil ?_
    refine AtX.then ?_
    refine TC.env (E' := [(4, _)]) (Sub.cons rfl (Sub.nil _)) ?_
    refine TC.ret1 (fn := Try.f74) (fun _ _ h => h) rfl (RV.tmp rfl) (fun _ h => h) ?_
    exact ⟨rfl, rfl⟩

/-- (*quorumite/verify.Gate).Replay -/
theorem gReplay_no (gb rb lb nb cn ob co : Nat) (sn so : List Value) (c : Cf) (N : Nat) (asked ref : Int) (ones : List On) (nws ols : List Nat) (T : Hp) (k : Nat) (hkN : N ≤ k) : FnC Try.prog 72 #[.pointer (some ⟨gb, 0, none⟩), .int .i64 (k : Nat)] (gateO gb c rb (some ⟨nb, 0, none⟩) N cn (some ⟨ob, 0, none⟩) N co ref :: ringO rb c.seed lb N c.grace asked :: (lb, row 161 (ones.flatMap On.cs)) :: (nb, row 118 (nws.map pp ++ sn)) :: (ob, row 118 (ols.map pp ++ so)) :: T) (fun v M' => v = .pointer none ∧ (gateO gb c rb (some ⟨nb, 0, none⟩) N cn (some ⟨ob, 0, none⟩) N co ref :: ringO rb c.seed lb N c.grace asked :: (lb, row 161 (ones.flatMap On.cs)) :: (nb, row 118 (nws.map pp ++ sn)) :: (ob, row 118 (ols.map pp ++ so)) :: T) = M') := by
  refine FnC.intro Try.func72 rfl 27 rfl (by simp) (fun z => ?_)
  refine TC.env (E' := [(0, _), (1, _)]) (Sub.cons rfl (Sub.cons rfl (Sub.nil _))) ?_
  refine TC.seq ?_
  refine TC.region ?_
  refine TL.val rfl rfl (Nat.le_of_ble_eq_true rfl) (Val.assign rfl) ?_
  refine TL.nil ?_
  refine AtX.then ?_
  refine TC.seq ?_
  refine TC.seq ?_
  refine TC.region ?_
  refine TL.val rfl rfl (Nat.le_of_ble_eq_true rfl) (Val.move rfl) ?_
  refine TL.val rfl rfl (Nat.le_of_ble_eq_true rfl) (Val.eqlNil rfl rfl pt55) ?_
  refine TL.val rfl rfl (Nat.le_of_ble_eq_true rfl) (Val.move rfl) ?_
  refine TL.gen (fun g1 hg1 => ?_)
  refine TL.gval rfl rfl (Nat.le_of_ble_eq_true rfl) rfl (Nat.le_of_ble_eq_true rfl) rfl (fun hg => by subst hg; exact (Val.move rfl)) ?_
  refine TL.gval rfl rfl (Nat.le_of_ble_eq_true rfl) rfl (Nat.le_of_ble_eq_true rfl) rfl (fun hg => by subst hg; exact (Val.lss rfl rfl)) ?_
  refine TL.val rfl rfl (Nat.le_of_ble_eq_true rfl) (Val.pickOr rfl rfl rfl) ?_
  refine TL.val rfl rfl (Nat.le_of_ble_eq_true rfl) (Val.move rfl) ?_
  refine TL.gen (fun g2 hg2 => ?_)
  refine TL.gval rfl rfl (Nat.le_of_ble_eq_true rfl) rfl (Nat.le_of_ble_eq_true rfl) rfl (fun hg => by subst hg; exact (Val.move rfl)) ?_
  refine TL.gval rfl rfl (Nat.le_of_ble_eq_true rfl) rfl (Nat.le_of_ble_eq_true rfl) rfl (fun hg => by subst hg; exact (Val.move rfl)) ?_
  refine TL.gval rfl rfl (Nat.le_of_ble_eq_true rfl) rfl (Nat.le_of_ble_eq_true rfl) rfl (fun hg => by subst hg; exact (Val.nilCheck rfl)) ?_
  refine TL.gval rfl rfl (Nat.le_of_ble_eq_true rfl) rfl (Nat.le_of_ble_eq_true rfl) rfl (fun hg => by subst hg; exact (Val.fieldAddr rfl fl117_2 sz115 rfl)) ?_
  refine TL.gval rfl rfl (Nat.le_of_ble_eq_true rfl) rfl (Nat.le_of_ble_eq_true rfl) rfl (fun hg => by subst hg; exact (Val.load 0 rfl ag115 rfl rfl)) ?_
  refine TL.gval rfl rfl (Nat.le_of_ble_eq_true rfl) rfl (Nat.le_of_ble_eq_true rfl) rfl (fun hg => by subst hg; exact (Val.lenSl rfl rfl sl115)) ?_
  refine TL.gval rfl rfl (Nat.le_of_ble_eq_true rfl) rfl (Nat.le_of_ble_eq_true rfl) rfl (fun hg => by subst hg; exact (Val.geq rfl rfl)) ?_
  refine TL.val rfl rfl (Nat.le_of_ble_eq_true rfl) (Val.pickOr rfl rfl rfl) ?_
  refine TL.nil ?_
  refine AtX.then ?_
  refine TC.env (E' := [(0, _), (1, _), (4, _), (19, _)]) (Sub.cons rfl (Sub.cons rfl (Sub.cons rfl (Sub.cons rfl (Sub.nil _))))) ?_
  first | refine TC.condP rfl (fun c1 => ?_) (fun c1 => ?_) | refine TC.condN rfl (fun c1 => ?_) (fun c1 => ?_) | refine TC.condB rfl (fun c1 => ?_) (fun c1 => ?_) | refine TC.cond rfl (fun c1 => ?_) (fun c1 => ?_)
  · skip
    refine TC.env (E' := [(0, _), (1, _), (4, _)]) (Sub.cons rfl (Sub.cons rfl (Sub.cons rfl (Sub.nil _)))) ?_
    refine TC.seq ?_
    refine TC.region ?_
    refine TL.val rfl rfl (Nat.le_of_ble_eq_true rfl) (Val.assign rfl) ?_
    refine TL.nil ?_
    refine AtX.then ?_
    refine TC.env (E' := [(0, _), (1, _), (4, _)]) (Sub.cons rfl (Sub.cons rfl (Sub.cons rfl (Sub.nil _)))) ?_
    refine TC.ret1 (fn := Try.f72) (fun _ _ h => h) rfl (RV.tmp rfl) (fun _ h => h) ?_
    exact ⟨rfl, rfl⟩
  · skip
    (exfalso; grind)

/-- (*quorumite/verify.Gate).check -/
theorem check_out (gb rb lb nb cn ob co : Nat) (sn so : List Value) (c : Cf) (N : Nat) (asked ref : Int) (ones : List On) (nws ols : List Nat) (T : Hp) (hN : c.n = N) (h1 : ones.length = N) (h2 : nws.length = N) (h3 : ols.length = N) (hgr : 1 ≤ c.grace ∧ c.grace ≤ 100) (has : 0 ≤ asked ∧ asked ≤ 90000) (k : Nat) (x : On) (hx : ones[k]? = some x) (hxb : 0 ≤ x.gen ∧ x.gen ≤ 60000) (hxs : 0 ≤ x.since ∧ x.since ≤ 1099511627776) (kind gen sq ep va me : Int) (hgen : -1000000 ≤ gen ∧ gen ≤ 1000000) (hk2 : kind = 2 → gen - 1 = x.gen) (now : Int) (hc : OkC c) (p p2 : Nat) (hp : nws[k]? = some p) (hp2 : ols[k]? = some p2) (ip : Nat) (top bits rr : Int) (htop : 0 ≤ top ∧ top ≤ 1000000) (hrep : T[ip]? = some (repO (if sgen kind gen = x.gen then p else p2) c.window top bits rr)) (hsq : 1 ≤ sq ∧ sq ≤ 1099511627776) (hep : 0 ≤ ep ∧ ep ≤ 1099511627776) (hnow : 0 ≤ now ∧ now ≤ 1099511627776) (tx : List UInt8) (A : Option Addr) (nn cc : Nat) (hA : RdS T A (bv tx)) (hnn : nn = tx.length) (htx : tx.length ≤ 1000) (tg : K2) (hk2n : ((k : Nat) : Int) ≠ 2)  : FnC Try.prog 63 #[.pointer (some ⟨gb, 0, none⟩), .agg #[.int .i64 kind, .int .i64 ((k : Nat) : Int), .int .i64 gen, .int .i64 sq, .int .i64 ep, .int .i64 va, .int .i64 me], .slice A nn cc, .agg #[.int .u64 tg.a, .int .u64 tg.b], .int .i64 now, .func (.func 41) #[] #[]] (gateO gb c rb (some ⟨nb, 0, none⟩) N cn (some ⟨ob, 0, none⟩) N co ref :: ringO rb c.seed lb N c.grace asked :: (lb, row 161 (ones.flatMap On.cs)) :: (nb, row 118 (nws.map pp ++ sn)) :: (ob, row 118 (ols.map pp ++ so)) :: T) (fun v M' => v = .int .i64 (chkC (okK x (sgen kind gen) now c.grace) (decide (bitsOf .or .u64 (xor64 (tagOf (if okK x (sgen kind gen) now c.grace = true then (macKey c.seed (k : Nat) (sgen kind gen)) else ⟨0, 0⟩) tx).a tg.a) (xor64 (tagOf (if okK x (sgen kind gen) now c.grace = true then (macKey c.seed (k : Nat) (sgen kind gen)) else ⟨0, 0⟩) tx).b tg.b) = 0)) (mayP c.window top bits sq) (decide (ep < now) || decide (c.fresh ≤ IntKind.u64.wrap (ep - now))) (decide (me < c.m))) ∧ M' = (gateO gb c rb (some ⟨nb, 0, none⟩) N cn (some ⟨ob, 0, none⟩) N co ref :: ringO rb c.seed lb N c.grace (asked + 1) :: (lb, row 161 (ones.flatMap On.cs)) :: (nb, row 118 (nws.map pp ++ sn)) :: (ob, row 118 (ols.map pp ++ so)) :: T)) := by
  have hkN : k < N := by rw [← h1]; exact (List.getElem?_eq_some_iff.1 hx).1
  have hfr := hc.fresh
  have hwin := hc.window
  refine FnC.intro Try.func63 rfl 88 rfl (by simp) (fun z => ?_)
  refine TC.env (E' := [(0, _), (1, _), (2, _), (3, _), (4, _), (5, _)]) (Sub.cons rfl (Sub.cons rfl (Sub.cons rfl (Sub.cons rfl (Sub.cons rfl (Sub.cons rfl (Sub.nil _))))))) ?_
  refine TC.seq ?_
  refine TC.region ?_
  refine TL.does (some 7) rfl rfl rfl (Does.box rfl rfl) ?_
  rintro _ _ ⟨b1, rfl, rfl⟩
  refine TL.does (some 9) rfl rfl rfl (Does.box rfl rfl) ?_
  rintro _ _ ⟨b2, rfl, rfl⟩
  refine TL.val rfl rfl (Nat.le_of_ble_eq_true rfl) (Val.assign rfl) ?_
  refine TL.nil ?_
  refine AtX.then ?_
  refine TC.env (E' := [(0, _), (2, _), (4, _), (5, _), (7, _), (9, _), (12, _)]) (Sub.cons rfl (Sub.cons rfl (Sub.cons rfl (Sub.cons rfl (Sub.cons rfl (Sub.cons rfl (Sub.cons rfl (Sub.nil _)))))))) ?_
  refine TC.seq ?_
  refine TC.seq ?_
  refine TC.heap (M' := (gateO gb c rb (some ⟨nb, 0, none⟩) N cn (some ⟨ob, 0, none⟩) N co ref :: ringO rb c.seed lb N c.grace asked :: (lb, row 161 (ones.flatMap On.cs)) :: (nb, row 118 (nws.map pp ++ sn)) :: (ob, row 118 (ols.map pp ++ so)) :: ((b2, .cells #[.int .u64 tg.a, .int .u64 tg.b] 73 (0, 0)) :: (b1, .cells #[.int .i64 kind, .int .i64 ((k : Nat) : Int), .int .i64 gen, .int .i64 sq, .int .i64 ep, .int .i64 va, .int .i64 me] 61 (0, 0)) :: T))) (fun w h => ro_mv (A := [_, _]) (L := [_, _, _, _, _]) w h) ?_
  refine TC.drawLM mixed 18 ?_
  refine TA.tk 0 1 rfl rfl rfl (Val.fieldAddr rfl fl61_1 sz3 rfl) ?_
  refine TA.tk 1 3 rfl rfl rfl (Val.load 6 rfl ag3 rfl rfl) ?_
  refine TA.tk 2 7 rfl rfl rfl (Val.move rfl) ?_
  refine TA.tk 3 15 rfl rfl rfl (Val.nilCheck rfl) ?_
  refine TA.tk 4 31 rfl rfl rfl (Val.fieldAddr rfl fl117_0 sz26 rfl) ?_
  refine TA.tk 5 63 rfl rfl rfl (Val.fieldAddr rfl fl26_0 sz3 rfl) ?_
  refine TA.tk 6 127 rfl rfl rfl (Val.load 0 rfl ag3 rfl rfl) ?_
  refine TA.tk 7 255 rfl rfl rfl (Val.geq rfl rfl) ?_
  refine TA.tk 8 511 rfl rfl rfl (Val.move rfl) ?_
  refine TA.gen (fun g3 hg3 => ?_)
  cases g3 with
  | false =>
    refine TA.tkY 9 1023 rfl rfl rfl rfl rfl (Val.move rfl) ?_
    refine TA.tkY 10 2047 rfl rfl rfl rfl rfl (Val.neqFun rfl rfl (by kernel_rfl)) ?_
    refine TA.tkY 11 4095 rfl rfl rfl rfl rfl (Val.move rfl) ?_
    refine TA.gen (fun g4 hg4 => ?_)
    refine TA.gtk 12 8191 rfl rfl rfl rfl rfl (fun hg => by subst hg; exact (Val.move rfl)) ?_
    refine TA.gtk 13 16383 rfl rfl rfl rfl rfl (fun hg => by subst hg; exact (Val.fieldAddr rfl fl61_1 sz3 rfl)) ?_
    refine TA.gtk 14 32767 rfl rfl rfl rfl rfl (fun hg => by subst hg; exact (Val.load 6 rfl ag3 rfl rfl)) ?_
    cases g4 with
    | false =>
      (exfalso; simp at hg4)
    | true =>
      refine TA.one 15 (by kernel_rfl) ?_
      refine TO.dzY 65535 (some 30) rfl rfl rfl rfl rfl rfl (Does.callV rfl go41 rfl (out_fn _ _)) ?_
      rintro _ _ ⟨rfl, rfl⟩
      refine roK ?_
      refine TA.tkY 16 131071 rfl rfl rfl rfl rfl (Val.pickAnd rfl rfl rfl) ?_
      refine TA.tk 17 262143 rfl rfl rfl (Val.pickOr rfl rfl rfl) ?_
      refine TA.done (by kernel_rfl) ?_
      refine AtX.then ?_
      refine TC.env (E' := [(0, _), (2, _), (4, _), (7, _), (9, _), (12, _), (32, _)]) (Sub.cons rfl (Sub.cons rfl (Sub.cons rfl (Sub.cons rfl (Sub.cons rfl (Sub.cons rfl (Sub.cons rfl (Sub.nil _)))))))) ?_
      first | refine TC.condP rfl (fun c1 => ?_) (fun c1 => ?_) | refine TC.condN rfl (fun c1 => ?_) (fun c1 => ?_) | refine TC.condB rfl (fun c1 => ?_) (fun c1 => ?_) | refine TC.cond rfl (fun c1 => ?_) (fun c1 => ?_)
      · skip
        (exfalso; grind)
      · skip
        refine TC.env (E' := [(0, _), (2, _), (4, _), (7, _), (9, _), (12, _)]) (Sub.cons rfl (Sub.cons rfl (Sub.cons rfl (Sub.cons rfl (Sub.cons rfl (Sub.cons rfl (Sub.nil _))))))) ?_
        refine TC.skip ?_
        refine AtX.then ?_
        refine TC.env (E' := [(0, _), (2, _), (4, _), (7, _), (9, _), (12, _)]) (Sub.cons rfl (Sub.cons rfl (Sub.cons rfl (Sub.cons rfl (Sub.cons rfl (Sub.cons rfl (Sub.nil _))))))) ?_
        refine TC.seq ?_
        refine TC.region ?_
        refine TL.val rfl rfl (Nat.le_of_ble_eq_true rfl) (Val.move rfl) ?_
        refine TL.val rfl rfl (Nat.le_of_ble_eq_true rfl) (Val.loadAgg 6 rfl ag61 sz61 rfl rfl rfl) ?_
        refine TL.val rfl rfl (Nat.le_of_ble_eq_true rfl) (Val.move rfl) ?_
        refine TL.does (some 37) rfl rfl rfl (Does.callF go64 rfl (gKey_fn gb rb lb nb cn ob co sn so c N asked ref ones nws ols _ hN h1 h2 h3 hgr ⟨has.1, by omega⟩ k x hx hxb hxs kind gen sq ep va me hgen hk2 now)) ?_
        rintro _ _ ⟨rfl, rfl⟩
        refine TL.val rfl rfl (Nat.le_of_ble_eq_true rfl) (Val.move rfl) ?_
        refine TL.val rfl rfl (Nat.le_of_ble_eq_true rfl) (Val.extract rfl rfl) ?_
        refine TL.val rfl rfl (Nat.le_of_ble_eq_true rfl) (Val.extract rfl rfl) ?_
        refine TL.does (some 13) rfl rfl rfl (Does.alloc ze69 rfl) ?_
        rintro _ _ ⟨b3_, rfl, rfl⟩
        refine TL.heap (M' := (gateO gb c rb (some ⟨nb, 0, none⟩) N cn (some ⟨ob, 0, none⟩) N co ref :: ringO rb c.seed lb N c.grace (asked + 1) :: (lb, row 161 (ones.flatMap On.cs)) :: (nb, row 118 (nws.map pp ++ sn)) :: (ob, row 118 (ols.map pp ++ so)) :: ((b3_, .cells #[.int .u64 0, .int .u64 0] 69 (0, 0)) :: ((b2, .cells #[.int .u64 tg.a, .int .u64 tg.b] 73 (0, 0)) :: (b1, .cells #[.int .i64 kind, .int .i64 ((k : Nat) : Int), .int .i64 gen, .int .i64 sq, .int .i64 ep, .int .i64 va, .int .i64 me] 61 (0, 0)) :: T)))) (fun w h => ro_mv (A := [_]) (L := [_, _, _, _, _]) w h) ?_
        refine TL.does none rfl rfl rfl (Does.store (i := 5) rfl rfl rfl sz69 rfl rfl (by first | exact Nat.le_of_ble_eq_true rfl | decide | omega) rfl rfl) ?_
        rintro _ _ ⟨rfl, rfl⟩
        refine TL.val rfl rfl (Nat.le_of_ble_eq_true rfl) (Val.assign rfl) ?_
        refine TL.nil ?_
        refine AtX.then ?_
        refine TC.env (E' := [(0, _), (2, _), (4, _), (7, _), (9, _), (12, _), (13, _), (14, _)]) (Sub.cons rfl (Sub.cons rfl (Sub.cons rfl (Sub.cons rfl (Sub.cons rfl (Sub.cons rfl (Sub.cons rfl (Sub.cons rfl (Sub.nil _))))))))) ?_
        refine TC.seq ?_
        refine TC.block ?_
        refine TC.seq ?_
        refine TC.region ?_
        refine TL.val rfl rfl (Nat.le_of_ble_eq_true rfl) (Val.move rfl) ?_
        refine TL.val rfl rfl (Nat.le_of_ble_eq_true rfl) (Val.neqI rfl rfl) ?_
        refine TL.val rfl rfl (Nat.le_of_ble_eq_true rfl) (Val.assign rfl) ?_
        refine TL.nil ?_
        refine AtX.then ?_
        refine TC.env (E' := [(0, _), (2, _), (4, _), (7, _), (9, _), (12, _), (13, _), (14, _), (40, _)]) (Sub.cons rfl (Sub.cons rfl (Sub.cons rfl (Sub.cons rfl (Sub.cons rfl (Sub.cons rfl (Sub.cons rfl (Sub.cons rfl (Sub.cons rfl (Sub.nil _)))))))))) ?_
        first | refine TC.condP rfl (fun c2 => ?_) (fun c2 => ?_) | refine TC.condN rfl (fun c2 => ?_) (fun c2 => ?_) | refine TC.condB rfl (fun c2 => ?_) (fun c2 => ?_) | refine TC.cond rfl (fun c2 => ?_) (fun c2 => ?_)
        · skip
          refine TC.env (E' := [(12, _), (14, _)]) (Sub.cons rfl (Sub.cons rfl (Sub.nil _))) ?_
          refine TC.seq ?_
          refine TC.region ?_
          refine TL.val rfl rfl (Nat.le_of_ble_eq_true rfl) (Val.move rfl) ?_
          refine TL.val rfl rfl (Nat.le_of_ble_eq_true rfl) (Val.assign rfl) ?_
          refine TL.nil ?_
          refine AtX.then ?_
          refine TC.env (E' := [(12, _)]) (Sub.cons rfl (Sub.nil _)) ?_
          refine TC.ret1 (fn := Try.f63) (fun _ _ h => h) rfl (RV.tmp rfl) (M' := (gateO gb c rb (some ⟨nb, 0, none⟩) N cn (some ⟨ob, 0, none⟩) N co ref :: ringO rb c.seed lb N c.grace (asked + 1) :: (lb, row 161 (ones.flatMap On.cs)) :: (nb, row 118 (nws.map pp ++ sn)) :: (ob, row 118 (ols.map pp ++ so)) :: T)) (fun w h => (ro_mv (A := [_, _, _, _, _]) (L := [_, _, _]) w h).drop.drop.drop) ?_
          refine ⟨?_, rfl⟩
          refine congrArg (Value.int .i64) ?_
          unfold chkC
          clear hN h1 h2 h3 hgr has hx hxb hxs hgen hk2 hp hp2 htop hrep hsq hep hnow hA hnn htx hkN hfr hwin hc
          generalize bitsOf .or .u64 (xor64 (tagOf (if okK x (sgen kind gen) now c.grace = true then (macKey c.seed (k : Nat) (sgen kind gen)) else ⟨0, 0⟩) tx).a tg.a) (xor64 (tagOf (if okK x (sgen kind gen) now c.grace = true then (macKey c.seed (k : Nat) (sgen kind gen)) else ⟨0, 0⟩) tx).b tg.b) = o2 at *
          generalize okK x (sgen kind gen) now c.grace = o1 at *
          generalize mayP c.window top bits sq = o3 at *
          generalize IntKind.u64.wrap (ep - now) = o4 at *
          try clear hg3 hg4 c1 hk2n
          cases o1 <;> cases o3 <;> grind
        · skip
          refine TC.env (E' := [(0, _), (2, _), (4, _), (7, _), (9, _), (12, _), (13, _)]) (Sub.cons rfl (Sub.cons rfl (Sub.cons rfl (Sub.cons rfl (Sub.cons rfl (Sub.cons rfl (Sub.cons rfl (Sub.nil _)))))))) ?_
          refine TC.seq ?_
          refine TC.drawLM mixed 7 ?_
          refine TA.tk 0 1 rfl rfl rfl (Val.loadAgg 5 rfl ag69 sz69 rfl rfl rfl) ?_
          refine TA.tk 1 3 rfl rfl rfl (Val.move rfl) ?_
          refine TA.tk 3 11 rfl rfl rfl (Val.loadAgg 6 rfl ag73 sz73 rfl rfl rfl) ?_
          refine TA.one 2 (by kernel_rfl) ?_
          refine TO.dz 15 (some 47) rfl rfl rfl rfl (Does.callF go40 rfl (Tag_fn (if okK x (sgen kind gen) now c.grace = true then (macKey c.seed (k : Nat) (sgen kind gen)) else ⟨0, 0⟩) tx _ _ _ _ (by repeat (first | exact hA | apply RdS.cons)) hnn htx)) ?_
          rintro _ _ ⟨rfl, rfl⟩
          refine roK ?_
          refine TA.one 4 (by kernel_rfl) ?_
          refine TO.dz 31 (some 49) rfl rfl rfl rfl (Does.callF go39 rfl (Same_fn (tagOf (if okK x (sgen kind gen) now c.grace = true then (macKey c.seed (k : Nat) (sgen kind gen)) else ⟨0, 0⟩) tx) tg _)) ?_
          rintro _ _ ⟨rfl, rfl⟩
          refine roK ?_
          refine TA.tk 5 63 rfl rfl rfl (Val.not rfl) ?_
          refine TA.tk 6 127 rfl rfl rfl (Val.assign rfl) ?_
          refine TA.done (by kernel_rfl) ?_
          refine AtX.then ?_
          refine TC.env (E' := [(0, _), (4, _), (7, _), (12, _), (44, _)]) (Sub.cons rfl (Sub.cons rfl (Sub.cons rfl (Sub.cons rfl (Sub.cons rfl (Sub.nil _)))))) ?_
          first | refine TC.condP rfl (fun c3 => ?_) (fun c3 => ?_) | refine TC.condN rfl (fun c3 => ?_) (fun c3 => ?_) | refine TC.condB rfl (fun c3 => ?_) (fun c3 => ?_) | refine TC.cond rfl (fun c3 => ?_) (fun c3 => ?_)
          · skip
            refine TC.env (E' := [(12, _)]) (Sub.cons rfl (Sub.nil _)) ?_
            refine TC.seq ?_
            refine TC.region ?_
            refine TL.val rfl rfl (Nat.le_of_ble_eq_true rfl) (Val.assign rfl) ?_
            refine TL.nil ?_
            refine AtX.then ?_
            refine TC.env (E' := [(12, _)]) (Sub.cons rfl (Sub.nil _)) ?_
            refine TC.ret1 (fn := Try.f63) (fun _ _ h => h) rfl (RV.tmp rfl) (M' := (gateO gb c rb (some ⟨nb, 0, none⟩) N cn (some ⟨ob, 0, none⟩) N co ref :: ringO rb c.seed lb N c.grace (asked + 1) :: (lb, row 161 (ones.flatMap On.cs)) :: (nb, row 118 (nws.map pp ++ sn)) :: (ob, row 118 (ols.map pp ++ so)) :: T)) (fun w h => (ro_mv (A := [_, _, _, _, _]) (L := [_, _, _]) w h).drop.drop.drop) ?_
            refine ⟨?_, rfl⟩
            refine congrArg (Value.int .i64) ?_
            unfold chkC
            clear hN h1 h2 h3 hgr has hx hxb hxs hgen hk2 hp hp2 htop hrep hsq hep hnow hA hnn htx hkN hfr hwin hc
            generalize bitsOf .or .u64 (xor64 (tagOf (if okK x (sgen kind gen) now c.grace = true then (macKey c.seed (k : Nat) (sgen kind gen)) else ⟨0, 0⟩) tx).a tg.a) (xor64 (tagOf (if okK x (sgen kind gen) now c.grace = true then (macKey c.seed (k : Nat) (sgen kind gen)) else ⟨0, 0⟩) tx).b tg.b) = o2 at *
            generalize okK x (sgen kind gen) now c.grace = o1 at *
            generalize mayP c.window top bits sq = o3 at *
            generalize IntKind.u64.wrap (ep - now) = o4 at *
            try clear hg3 hg4 c1 hk2n
            cases o1 <;> cases o3 <;> grind
          · skip
            refine TC.env (E' := [(0, _), (4, _), (7, _), (12, _)]) (Sub.cons rfl (Sub.cons rfl (Sub.cons rfl (Sub.cons rfl (Sub.nil _))))) ?_
            refine TC.seq ?_
            refine TC.drawLM mixed 8 ?_
            refine TA.tk 0 1 rfl rfl rfl (Val.move rfl) ?_
            refine TA.tk 1 3 rfl rfl rfl (Val.loadAgg 7 rfl ag61 sz61 rfl rfl rfl) ?_
            refine TA.tk 3 11 rfl rfl rfl (Val.fieldAddr rfl fl61_3 sz2 rfl) ?_
            refine TA.tk 4 27 rfl rfl rfl (Val.load 7 rfl ag2 rfl rfl) ?_
            refine TA.one 2 (by kernel_rfl) ?_
            refine TO.dz 31 (some 54) rfl rfl rfl rfl (Does.callF go65 rfl (gSel_fn gb rb lb nb cn ob co sn so c N (asked + 1) ref ones nws ols _ hN h1 h2 h3 hgr ⟨by omega, by omega⟩ k x hx hxb hxs kind gen sq ep va me hgen hk2 p p2 hp hp2)) ?_
            rintro _ _ ⟨rfl, rfl⟩
            refine roK ?_
            refine TA.one 5 (by kernel_rfl) ?_
            refine TO.dz 63 (some 57) rfl rfl rfl rfl (Does.callF go66 rfl (pMay_fn (if sgen kind gen = x.gen then p else p2) (ip + 8) c.window top bits rr _ hrep hwin ⟨by omega, by omega⟩ sq hsq)) ?_
            rintro _ _ ⟨rfl, rfl⟩
            refine roK ?_
            refine TA.tk 6 127 rfl rfl rfl (Val.not rfl) ?_
            refine TA.tk 7 255 rfl rfl rfl (Val.assign rfl) ?_
            refine TA.done (by kernel_rfl) ?_
            refine AtX.then ?_
            refine TC.env (E' := [(0, _), (4, _), (7, _), (12, _), (51, _)]) (Sub.cons rfl (Sub.cons rfl (Sub.cons rfl (Sub.cons rfl (Sub.cons rfl (Sub.nil _)))))) ?_
            first | refine TC.condP rfl (fun c4 => ?_) (fun c4 => ?_) | refine TC.condN rfl (fun c4 => ?_) (fun c4 => ?_) | refine TC.condB rfl (fun c4 => ?_) (fun c4 => ?_) | refine TC.cond rfl (fun c4 => ?_) (fun c4 => ?_)
            · skip
              refine TC.env (E' := [(12, _)]) (Sub.cons rfl (Sub.nil _)) ?_
              refine TC.seq ?_
              refine TC.region ?_
              refine TL.val rfl rfl (Nat.le_of_ble_eq_true rfl) (Val.assign rfl) ?_
              refine TL.nil ?_
              refine AtX.then ?_
              refine TC.env (E' := [(12, _)]) (Sub.cons rfl (Sub.nil _)) ?_
              refine TC.ret1 (fn := Try.f63) (fun _ _ h => h) rfl (RV.tmp rfl) (M' := (gateO gb c rb (some ⟨nb, 0, none⟩) N cn (some ⟨ob, 0, none⟩) N co ref :: ringO rb c.seed lb N c.grace (asked + 1) :: (lb, row 161 (ones.flatMap On.cs)) :: (nb, row 118 (nws.map pp ++ sn)) :: (ob, row 118 (ols.map pp ++ so)) :: T)) (fun w h => (ro_mv (A := [_, _, _, _, _]) (L := [_, _, _]) w h).drop.drop.drop) ?_
              refine ⟨?_, rfl⟩
              refine congrArg (Value.int .i64) ?_
              unfold chkC
              clear hN h1 h2 h3 hgr has hx hxb hxs hgen hk2 hp hp2 htop hrep hsq hep hnow hA hnn htx hkN hfr hwin hc
              generalize bitsOf .or .u64 (xor64 (tagOf (if okK x (sgen kind gen) now c.grace = true then (macKey c.seed (k : Nat) (sgen kind gen)) else ⟨0, 0⟩) tx).a tg.a) (xor64 (tagOf (if okK x (sgen kind gen) now c.grace = true then (macKey c.seed (k : Nat) (sgen kind gen)) else ⟨0, 0⟩) tx).b tg.b) = o2 at *
              generalize okK x (sgen kind gen) now c.grace = o1 at *
              generalize mayP c.window top bits sq = o3 at *
              generalize IntKind.u64.wrap (ep - now) = o4 at *
              try clear hg3 hg4 c1 hk2n
              cases o1 <;> cases o3 <;> grind
            · skip
              refine TC.env (E' := [(0, _), (4, _), (7, _), (12, _)]) (Sub.cons rfl (Sub.cons rfl (Sub.cons rfl (Sub.cons rfl (Sub.nil _))))) ?_
              refine TC.seq ?_
              refine TC.drawLM mixed 20 ?_
              refine TA.tk 0 1 rfl rfl rfl (Val.fieldAddr rfl fl61_4 sz2 rfl) ?_
              refine TA.tk 1 3 rfl rfl rfl (Val.load 7 rfl ag2 rfl rfl) ?_
              refine TA.tk 2 7 rfl rfl rfl (Val.move rfl) ?_
              refine TA.tk 3 15 rfl rfl rfl (Val.lss rfl rfl) ?_
              refine TA.tk 4 31 rfl rfl rfl (Val.move rfl) ?_
              refine TA.gen (fun g10 hg10 => ?_)
              refine TA.gtk 5 63 rfl rfl rfl rfl rfl (fun hg => by subst hg; exact (Val.fieldAddr rfl fl61_4 sz2 rfl)) ?_
              refine TA.gtk 6 127 rfl rfl rfl rfl rfl (fun hg => by subst hg; exact (Val.load 7 rfl ag2 rfl rfl)) ?_
              refine TA.gtk 7 255 rfl rfl rfl rfl rfl (fun hg => by subst hg; exact (Val.convI rfl iu2 in24 (r := ep) (w_u64 (by omega) (by omega)))) ?_
              refine TA.gtk 8 511 rfl rfl rfl rfl rfl (fun hg => by subst hg; exact (Val.move rfl)) ?_
              refine TA.gtk 9 1023 rfl rfl rfl rfl rfl (fun hg => by subst hg; exact (Val.convI rfl iu2 in24 (r := now) (w_u64 (by omega) (by omega)))) ?_
              refine TA.gtk 10 2047 rfl rfl rfl rfl rfl (fun hg => by subst hg; exact (Val.sub rfl rfl (r := IntKind.u64.wrap (ep - now)) rfl)) ?_
              refine TA.gtk 11 4095 rfl rfl rfl rfl rfl (fun hg => by subst hg; exact (Val.move rfl)) ?_
              refine TA.gtk 12 8191 rfl rfl rfl rfl rfl (fun hg => by subst hg; exact (Val.nilCheck rfl)) ?_
              refine TA.gtk 13 16383 rfl rfl rfl rfl rfl (fun hg => by subst hg; exact (Val.fieldAddr rfl fl117_0 sz26 rfl)) ?_
              refine TA.gtk 14 32767 rfl rfl rfl rfl rfl (fun hg => by subst hg; exact (Val.fieldAddr rfl fl26_4 sz3 rfl)) ?_
              refine TA.gtk 15 65535 rfl rfl rfl rfl rfl (fun hg => by subst hg; exact (Val.load 0 rfl ag3 rfl rfl)) ?_
              refine TA.gtk 16 131071 rfl rfl rfl rfl rfl (fun hg => by subst hg; exact (Val.convI rfl iu3 in24 (r := c.fresh) (w_u64 (by omega) (by omega)))) ?_
              refine TA.gtk 17 262143 rfl rfl rfl rfl rfl (fun hg => by subst hg; exact (Val.geq rfl rfl)) ?_
              refine TA.tk 18 524287 rfl rfl rfl (Val.pickOr rfl rfl rfl) ?_
              refine TA.tk 19 1048575 rfl rfl rfl (Val.assign rfl) ?_
              refine TA.done (by kernel_rfl) ?_
              refine AtX.then ?_
              refine TC.env (E' := [(0, _), (7, _), (12, _), (59, _)]) (Sub.cons rfl (Sub.cons rfl (Sub.cons rfl (Sub.cons rfl (Sub.nil _))))) ?_
              first | refine TC.condP rfl (fun c5 => ?_) (fun c5 => ?_) | refine TC.condN rfl (fun c5 => ?_) (fun c5 => ?_) | refine TC.condB rfl (fun c5 => ?_) (fun c5 => ?_) | refine TC.cond rfl (fun c5 => ?_) (fun c5 => ?_)
              · skip
                refine TC.env (E' := [(12, _)]) (Sub.cons rfl (Sub.nil _)) ?_
                refine TC.seq ?_
                refine TC.region ?_
                refine TL.val rfl rfl (Nat.le_of_ble_eq_true rfl) (Val.assign rfl) ?_
                refine TL.nil ?_
                refine AtX.then ?_
                refine TC.env (E' := [(12, _)]) (Sub.cons rfl (Sub.nil _)) ?_
                refine TC.ret1 (fn := Try.f63) (fun _ _ h => h) rfl (RV.tmp rfl) (M' := (gateO gb c rb (some ⟨nb, 0, none⟩) N cn (some ⟨ob, 0, none⟩) N co ref :: ringO rb c.seed lb N c.grace (asked + 1) :: (lb, row 161 (ones.flatMap On.cs)) :: (nb, row 118 (nws.map pp ++ sn)) :: (ob, row 118 (ols.map pp ++ so)) :: T)) (fun w h => (ro_mv (A := [_, _, _, _, _]) (L := [_, _, _]) w h).drop.drop.drop) ?_
                refine ⟨?_, rfl⟩
                refine congrArg (Value.int .i64) ?_
                unfold chkC
                clear hN h1 h2 h3 hgr has hx hxb hxs hgen hk2 hp hp2 htop hrep hsq hep hnow hA hnn htx hkN hfr hwin hc
                generalize bitsOf .or .u64 (xor64 (tagOf (if okK x (sgen kind gen) now c.grace = true then (macKey c.seed (k : Nat) (sgen kind gen)) else ⟨0, 0⟩) tx).a tg.a) (xor64 (tagOf (if okK x (sgen kind gen) now c.grace = true then (macKey c.seed (k : Nat) (sgen kind gen)) else ⟨0, 0⟩) tx).b tg.b) = o2 at *
                generalize okK x (sgen kind gen) now c.grace = o1 at *
                generalize mayP c.window top bits sq = o3 at *
                generalize IntKind.u64.wrap (ep - now) = o4 at *
                try clear hg3 hg4 c1 hk2n
                cases o1 <;> cases o3 <;> grind
              · skip
                refine TC.env (E' := [(0, _), (7, _), (12, _)]) (Sub.cons rfl (Sub.cons rfl (Sub.cons rfl (Sub.nil _)))) ?_
                refine TC.seq ?_
                refine TC.drawLM mixed 9 ?_
                refine TA.tk 0 1 rfl rfl rfl (Val.fieldAddr rfl fl61_6 sz3 rfl) ?_
                refine TA.tk 1 3 rfl rfl rfl (Val.load 7 rfl ag3 rfl rfl) ?_
                refine TA.tk 2 7 rfl rfl rfl (Val.move rfl) ?_
                refine TA.tk 3 15 rfl rfl rfl (Val.nilCheck rfl) ?_
                refine TA.tk 4 31 rfl rfl rfl (Val.fieldAddr rfl fl117_0 sz26 rfl) ?_
                refine TA.tk 5 63 rfl rfl rfl (Val.fieldAddr rfl fl26_2 sz3 rfl) ?_
                refine TA.tk 6 127 rfl rfl rfl (Val.load 0 rfl ag3 rfl rfl) ?_
                refine TA.tk 7 255 rfl rfl rfl (Val.geq rfl rfl) ?_
                refine TA.tk 8 511 rfl rfl rfl (Val.assign rfl) ?_
                refine TA.done (by kernel_rfl) ?_
                refine AtX.then ?_
                refine TC.env (E' := [(12, _), (79, _)]) (Sub.cons rfl (Sub.cons rfl (Sub.nil _))) ?_
                first | refine TC.condP rfl (fun c6 => ?_) (fun c6 => ?_) | refine TC.condN rfl (fun c6 => ?_) (fun c6 => ?_) | refine TC.condB rfl (fun c6 => ?_) (fun c6 => ?_) | refine TC.cond rfl (fun c6 => ?_) (fun c6 => ?_)
                · skip
                  refine TC.env (E' := [(12, _)]) (Sub.cons rfl (Sub.nil _)) ?_
                  refine TC.seq ?_
                  refine TC.region ?_
                  refine TL.val rfl rfl (Nat.le_of_ble_eq_true rfl) (Val.assign rfl) ?_
                  refine TL.nil ?_
                  refine AtX.then ?_
                  refine TC.env (E' := [(12, _)]) (Sub.cons rfl (Sub.nil _)) ?_
                  refine TC.ret1 (fn := Try.f63) (fun _ _ h => h) rfl (RV.tmp rfl) (M' := (gateO gb c rb (some ⟨nb, 0, none⟩) N cn (some ⟨ob, 0, none⟩) N co ref :: ringO rb c.seed lb N c.grace (asked + 1) :: (lb, row 161 (ones.flatMap On.cs)) :: (nb, row 118 (nws.map pp ++ sn)) :: (ob, row 118 (ols.map pp ++ so)) :: T)) (fun w h => (ro_mv (A := [_, _, _, _, _]) (L := [_, _, _]) w h).drop.drop.drop) ?_
                  refine ⟨?_, rfl⟩
                  refine congrArg (Value.int .i64) ?_
                  unfold chkC
                  clear hN h1 h2 h3 hgr has hx hxb hxs hgen hk2 hp hp2 htop hrep hsq hep hnow hA hnn htx hkN hfr hwin hc
                  generalize bitsOf .or .u64 (xor64 (tagOf (if okK x (sgen kind gen) now c.grace = true then (macKey c.seed (k : Nat) (sgen kind gen)) else ⟨0, 0⟩) tx).a tg.a) (xor64 (tagOf (if okK x (sgen kind gen) now c.grace = true then (macKey c.seed (k : Nat) (sgen kind gen)) else ⟨0, 0⟩) tx).b tg.b) = o2 at *
                  generalize okK x (sgen kind gen) now c.grace = o1 at *
                  generalize mayP c.window top bits sq = o3 at *
                  generalize IntKind.u64.wrap (ep - now) = o4 at *
                  try clear hg3 hg4 c1 hk2n
                  cases o1 <;> cases o3 <;> grind
                · skip
                  refine TC.env (E' := [(12, _)]) (Sub.cons rfl (Sub.nil _)) ?_
                  refine TC.skip ?_
                  refine AtX.blk ?_
                  refine AtX.then ?_
                  refine TC.env (E' := [(12, _)]) (Sub.cons rfl (Sub.nil _)) ?_
                  refine TC.seq ?_
                  refine TC.region ?_
                  refine TL.val rfl rfl (Nat.le_of_ble_eq_true rfl) (Val.assign rfl) ?_
                  refine TL.nil ?_
                  refine AtX.then ?_
                  refine TC.env (E' := [(12, _)]) (Sub.cons rfl (Sub.nil _)) ?_
                  refine TC.ret1 (fn := Try.f63) (fun _ _ h => h) rfl (RV.tmp rfl) (M' := (gateO gb c rb (some ⟨nb, 0, none⟩) N cn (some ⟨ob, 0, none⟩) N co ref :: ringO rb c.seed lb N c.grace (asked + 1) :: (lb, row 161 (ones.flatMap On.cs)) :: (nb, row 118 (nws.map pp ++ sn)) :: (ob, row 118 (ols.map pp ++ so)) :: T)) (fun w h => (ro_mv (A := [_, _, _, _, _]) (L := [_, _, _]) w h).drop.drop.drop) ?_
                  refine ⟨?_, rfl⟩
                  refine congrArg (Value.int .i64) ?_
                  unfold chkC
                  clear hN h1 h2 h3 hgr has hx hxb hxs hgen hk2 hp hp2 htop hrep hsq hep hnow hA hnn htx hkN hfr hwin hc
                  generalize bitsOf .or .u64 (xor64 (tagOf (if okK x (sgen kind gen) now c.grace = true then (macKey c.seed (k : Nat) (sgen kind gen)) else ⟨0, 0⟩) tx).a tg.a) (xor64 (tagOf (if okK x (sgen kind gen) now c.grace = true then (macKey c.seed (k : Nat) (sgen kind gen)) else ⟨0, 0⟩) tx).b tg.b) = o2 at *
                  generalize okK x (sgen kind gen) now c.grace = o1 at *
                  generalize mayP c.window top bits sq = o3 at *
                  generalize IntKind.u64.wrap (ep - now) = o4 at *
                  try clear hg3 hg4 c1 hk2n
                  cases o1 <;> cases o3 <;> grind
  | true =>
    (exfalso; grind)

/-- (*quorumite/verify.Gate).check -/
theorem check_two (gb rb lb nb cn ob co : Nat) (sn so : List Value) (c : Cf) (N : Nat) (asked ref : Int) (ones : List On) (nws ols : List Nat) (T : Hp) (hN : c.n = N) (h1 : ones.length = N) (h2 : nws.length = N) (h3 : ols.length = N) (hgr : 1 ≤ c.grace ∧ c.grace ≤ 100) (has : 0 ≤ asked ∧ asked ≤ 90000) (k : Nat) (x : On) (hx : ones[k]? = some x) (hxb : 0 ≤ x.gen ∧ x.gen ≤ 60000) (hxs : 0 ≤ x.since ∧ x.since ≤ 1099511627776) (kind gen sq ep va me : Int) (hgen : -1000000 ≤ gen ∧ gen ≤ 1000000) (hk2 : kind = 2 → gen - 1 = x.gen) (now : Int) (hc : OkC c) (p p2 : Nat) (hp : nws[k]? = some p) (hp2 : ols[k]? = some p2) (ip : Nat) (top bits rr : Int) (htop : 0 ≤ top ∧ top ≤ 1000000) (hrep : T[ip]? = some (repO (if sgen kind gen = x.gen then p else p2) c.window top bits rr)) (hsq : 1 ≤ sq ∧ sq ≤ 1099511627776) (hep : 0 ≤ ep ∧ ep ≤ 1099511627776) (hnow : 0 ≤ now ∧ now ≤ 1099511627776) (tx : List UInt8) (A : Option Addr) (nn cc : Nat) (hA : RdS T A (bv tx)) (hnn : nn = tx.length) (htx : tx.length ≤ 1000) (tg : K2) (hk2n : ((k : Nat) : Int) = 2)  : FnC Try.prog 63 #[.pointer (some ⟨gb, 0, none⟩), .agg #[.int .i64 kind, .int .i64 ((k : Nat) : Int), .int .i64 gen, .int .i64 sq, .int .i64 ep, .int .i64 va, .int .i64 me], .slice A nn cc, .agg #[.int .u64 tg.a, .int .u64 tg.b], .int .i64 now, .func (.func 41) #[] #[]] (gateO gb c rb (some ⟨nb, 0, none⟩) N cn (some ⟨ob, 0, none⟩) N co ref :: ringO rb c.seed lb N c.grace asked :: (lb, row 161 (ones.flatMap On.cs)) :: (nb, row 118 (nws.map pp ++ sn)) :: (ob, row 118 (ols.map pp ++ so)) :: T) (fun v M' => v = .int .i64 3 ∧ (gateO gb c rb (some ⟨nb, 0, none⟩) N cn (some ⟨ob, 0, none⟩) N co ref :: ringO rb c.seed lb N c.grace asked :: (lb, row 161 (ones.flatMap On.cs)) :: (nb, row 118 (nws.map pp ++ sn)) :: (ob, row 118 (ols.map pp ++ so)) :: T) = M') := by
  have hkN : k < N := by rw [← h1]; exact (List.getElem?_eq_some_iff.1 hx).1
  have hfr := hc.fresh
  have hwin := hc.window
  refine FnC.intro Try.func63 rfl 88 rfl (by simp) (fun z => ?_)
  refine TC.env (E' := [(0, _), (1, _), (2, _), (3, _), (4, _), (5, _)]) (Sub.cons rfl (Sub.cons rfl (Sub.cons rfl (Sub.cons rfl (Sub.cons rfl (Sub.cons rfl (Sub.nil _))))))) ?_
  refine TC.seq ?_
  refine TC.region ?_
  refine TL.does (some 7) rfl rfl rfl (Does.box rfl rfl) ?_
  rintro _ _ ⟨b1, rfl, rfl⟩
  refine TL.does (some 9) rfl rfl rfl (Does.box rfl rfl) ?_
  rintro _ _ ⟨b2, rfl, rfl⟩
  refine TL.val rfl rfl (Nat.le_of_ble_eq_true rfl) (Val.assign rfl) ?_
  refine TL.nil ?_
  refine AtX.then ?_
  refine TC.env (E' := [(0, _), (2, _), (4, _), (5, _), (7, _), (9, _), (12, _)]) (Sub.cons rfl (Sub.cons rfl (Sub.cons rfl (Sub.cons rfl (Sub.cons rfl (Sub.cons rfl (Sub.cons rfl (Sub.nil _)))))))) ?_
  refine TC.seq ?_
  refine TC.seq ?_
  refine TC.heap (M' := (gateO gb c rb (some ⟨nb, 0, none⟩) N cn (some ⟨ob, 0, none⟩) N co ref :: ringO rb c.seed lb N c.grace asked :: (lb, row 161 (ones.flatMap On.cs)) :: (nb, row 118 (nws.map pp ++ sn)) :: (ob, row 118 (ols.map pp ++ so)) :: ((b2, .cells #[.int .u64 tg.a, .int .u64 tg.b] 73 (0, 0)) :: (b1, .cells #[.int .i64 kind, .int .i64 ((k : Nat) : Int), .int .i64 gen, .int .i64 sq, .int .i64 ep, .int .i64 va, .int .i64 me] 61 (0, 0)) :: T))) (fun w h => ro_mv (A := [_, _]) (L := [_, _, _, _, _]) w h) ?_
  refine TC.drawLM mixed 18 ?_
  refine TA.tk 0 1 rfl rfl rfl (Val.fieldAddr rfl fl61_1 sz3 rfl) ?_
  refine TA.tk 1 3 rfl rfl rfl (Val.load 6 rfl ag3 rfl rfl) ?_
  refine TA.tk 2 7 rfl rfl rfl (Val.move rfl) ?_
  refine TA.tk 3 15 rfl rfl rfl (Val.nilCheck rfl) ?_
  refine TA.tk 4 31 rfl rfl rfl (Val.fieldAddr rfl fl117_0 sz26 rfl) ?_
  refine TA.tk 5 63 rfl rfl rfl (Val.fieldAddr rfl fl26_0 sz3 rfl) ?_
  refine TA.tk 6 127 rfl rfl rfl (Val.load 0 rfl ag3 rfl rfl) ?_
  refine TA.tk 7 255 rfl rfl rfl (Val.geq rfl rfl) ?_
  refine TA.tk 8 511 rfl rfl rfl (Val.move rfl) ?_
  refine TA.gen (fun g3 hg3 => ?_)
  cases g3 with
  | false =>
    refine TA.tkY 9 1023 rfl rfl rfl rfl rfl (Val.move rfl) ?_
    refine TA.tkY 10 2047 rfl rfl rfl rfl rfl (Val.neqFun rfl rfl (by kernel_rfl)) ?_
    refine TA.tkY 11 4095 rfl rfl rfl rfl rfl (Val.move rfl) ?_
    refine TA.gen (fun g4 hg4 => ?_)
    refine TA.gtk 12 8191 rfl rfl rfl rfl rfl (fun hg => by subst hg; exact (Val.move rfl)) ?_
    refine TA.gtk 13 16383 rfl rfl rfl rfl rfl (fun hg => by subst hg; exact (Val.fieldAddr rfl fl61_1 sz3 rfl)) ?_
    refine TA.gtk 14 32767 rfl rfl rfl rfl rfl (fun hg => by subst hg; exact (Val.load 6 rfl ag3 rfl rfl)) ?_
    cases g4 with
    | false =>
      (exfalso; simp at hg4)
    | true =>
      refine TA.one 15 (by kernel_rfl) ?_
      refine TO.dzY 65535 (some 30) rfl rfl rfl rfl rfl rfl (Does.callV rfl go41 rfl (out_fn _ _)) ?_
      rintro _ _ ⟨rfl, rfl⟩
      refine roK ?_
      refine TA.tkY 16 131071 rfl rfl rfl rfl rfl (Val.pickAnd rfl rfl rfl) ?_
      refine TA.tk 17 262143 rfl rfl rfl (Val.pickOr rfl rfl rfl) ?_
      refine TA.done (by kernel_rfl) ?_
      refine AtX.then ?_
      refine TC.env (E' := [(0, _), (2, _), (4, _), (7, _), (9, _), (12, _), (32, _)]) (Sub.cons rfl (Sub.cons rfl (Sub.cons rfl (Sub.cons rfl (Sub.cons rfl (Sub.cons rfl (Sub.cons rfl (Sub.nil _)))))))) ?_
      first | refine TC.condP rfl (fun c1 => ?_) (fun c1 => ?_) | refine TC.condN rfl (fun c1 => ?_) (fun c1 => ?_) | refine TC.condB rfl (fun c1 => ?_) (fun c1 => ?_) | refine TC.cond rfl (fun c1 => ?_) (fun c1 => ?_)
      · skip
        refine TC.env (E' := [(0, _), (2, _), (4, _), (7, _), (9, _), (12, _)]) (Sub.cons rfl (Sub.cons rfl (Sub.cons rfl (Sub.cons rfl (Sub.cons rfl (Sub.cons rfl (Sub.nil _))))))) ?_
        refine TC.seq ?_
        refine TC.region ?_
        refine TL.val rfl rfl (Nat.le_of_ble_eq_true rfl) (Val.assign rfl) ?_
        refine TL.nil ?_
        refine AtX.then ?_
        refine TC.env (E' := [(0, _), (2, _), (4, _), (7, _), (9, _), (12, _)]) (Sub.cons rfl (Sub.cons rfl (Sub.cons rfl (Sub.cons rfl (Sub.cons rfl (Sub.cons rfl (Sub.nil _))))))) ?_
        refine TC.ret1 (fn := Try.f63) (fun _ _ h => h) rfl (RV.tmp rfl) (M' := (gateO gb c rb (some ⟨nb, 0, none⟩) N cn (some ⟨ob, 0, none⟩) N co ref :: ringO rb c.seed lb N c.grace asked :: (lb, row 161 (ones.flatMap On.cs)) :: (nb, row 118 (nws.map pp ++ sn)) :: (ob, row 118 (ols.map pp ++ so)) :: T)) (fun w h => (ro_mv (A := [_, _, _, _, _]) (L := [_, _]) w h).drop.drop) ?_
        exact ⟨rfl, rfl⟩
      · skip
        (exfalso; grind)
  | true =>
    (exfalso; grind)

end Go.Proofs.Ytphoapajlcaoeaa
/- walks -/
set_option linter.unusedVariables false
set_option linter.unusedSimpArgs false
set_option maxRecDepth 100000
set_option maxHeartbeats 4000000
namespace Go.Proofs.Ytphoapajlcaoeaa
open Go Go.X
/-- quorumite/wire.Split -/
theorem Split_no (A : Option Addr) (n c : Nat) (M : Hp) (hn : n ≠ 48) : FnC Try.prog 42 #[.slice A n c] M (fun v M' => v = .tuple #[.agg #[.int .i64 0, .int .i64 0, .int .i64 0, .int .i64 0, .int .i64 0, .int .i64 0, .int .i64 0], .slice none 0 0, .agg #[.int .u64 0, .int .u64 0], .int .i64 2] ∧ M = M') := by
  refine FnC.intro Try.func42 rfl 37 rfl (by simp) (fun z => ?_)
  refine TC.env (E' := [(0, _)]) (Sub.cons rfl (Sub.nil _)) ?_
  refine TC.seq ?_
  refine TC.region ?_
  refine TL.does (some 2) rfl rfl rfl (Does.alloc ze61 rfl) ?_
  rintro _ _ ⟨b1, rfl, rfl⟩
  refine TL.val rfl rfl (Nat.le_of_ble_eq_true rfl) (Val.assign rfl) ?_
  refine TL.does (some 4) rfl rfl rfl (Does.alloc ze73 rfl) ?_
  rintro _ _ ⟨b2, rfl, rfl⟩
  refine TL.val rfl rfl (Nat.le_of_ble_eq_true rfl) (Val.assign rfl) ?_
  refine TL.nil ?_
  refine AtX.then ?_
  refine TC.seq ?_
  refine TC.seq ?_
  refine TC.region ?_
  refine TL.val rfl rfl (Nat.le_of_ble_eq_true rfl) (Val.move rfl) ?_
  refine TL.val rfl rfl (Nat.le_of_ble_eq_true rfl) (Val.lenSl rfl rfl sl37) ?_
  refine TL.val rfl rfl (Nat.le_of_ble_eq_true rfl) (Val.neqI rfl rfl) ?_
  refine TL.nil ?_
  refine AtX.then ?_
  refine TC.env (E' := [(0, _), (2, _), (3, _), (4, _), (5, _), (12, _)]) (Sub.cons rfl (Sub.cons rfl (Sub.cons rfl (Sub.cons rfl (Sub.cons rfl (Sub.cons rfl (Sub.nil _))))))) ?_
  first | refine TC.condP rfl (fun c1 => ?_) (fun c1 => ?_) | refine TC.condN rfl (fun c1 => ?_) (fun c1 => ?_) | refine TC.condB rfl (fun c1 => ?_) (fun c1 => ?_) | refine TC.cond rfl (fun c1 => ?_) (fun c1 => ?_)
  · skip
    refine TC.env (E' := [(0, _), (2, _), (3, _), (4, _), (5, _)]) (Sub.cons rfl (Sub.cons rfl (Sub.cons rfl (Sub.cons rfl (Sub.cons rfl (Sub.nil _)))))) ?_
    refine TC.seq ?_
    refine TC.region ?_
    refine TL.val rfl rfl (Nat.le_of_ble_eq_true rfl) (Val.buildS pl61 ze61 rfl rfl) ?_
    refine TL.val rfl rfl (Nat.le_of_ble_eq_true rfl) (Val.buildA ar73 sz24 ze73 rfl rfl) ?_
    refine TL.does none rfl rfl rfl (Does.store (i := 1) rfl rfl rfl sz61 rfl rfl (by first | exact Nat.le_of_ble_eq_true rfl | decide | omega) rfl rfl) ?_
    rintro _ _ ⟨rfl, rfl⟩
    refine TL.val rfl rfl (Nat.le_of_ble_eq_true rfl) (Val.assign rfl) ?_
    refine TL.does none rfl rfl rfl (Does.store (i := 0) rfl rfl rfl sz73 rfl rfl (by first | exact Nat.le_of_ble_eq_true rfl | decide | omega) rfl rfl) ?_
    rintro _ _ ⟨rfl, rfl⟩
    refine TL.val rfl rfl (Nat.le_of_ble_eq_true rfl) (Val.assign rfl) ?_
    refine TL.nil ?_
    refine AtX.then ?_
    refine TC.env (E' := [(0, _), (2, _), (3, _), (4, _), (5, _)]) (Sub.cons rfl (Sub.cons rfl (Sub.cons rfl (Sub.cons rfl (Sub.cons rfl (Sub.nil _)))))) ?_
    refine TC.ret4 (fn := Try.f42) (fun _ _ h => h) rfl (RV.agg (i := 1) rfl ag61 sz61 rfl rfl rfl) (RV.tmp rfl) (RV.agg (i := 0) rfl ag73 sz73 rfl rfl rfl) (RV.tmp rfl) (M' := M) (by repeat (first | exact ro_refl | exact ro_pre | refine ro_tail ?_ | refine ro_app ?_)) ?_
    exact ⟨rfl, rfl⟩
  · skip
    (exfalso; omega)

/-- (*quorumite/verify.Gate).Check -/
theorem Check_no (gb rb lb nb cn ob co : Nat) (sn so : List Value) (c : Cf) (N : Nat) (asked ref : Int) (ones : List On) (nws ols : List Nat) (T : Hp) (A : Option Addr) (n cc : Nat) (hn : n ≠ 48) (now : Int) (href : 0 ≤ ref ∧ ref ≤ 100000) : FnC Try.prog 32 #[.pointer (some ⟨gb, 0, none⟩), .slice A n cc, .int .i64 now, .nilFunc] (gateO gb c rb (some ⟨nb, 0, none⟩) N cn (some ⟨ob, 0, none⟩) N co ref :: ringO rb c.seed lb N c.grace asked :: (lb, row 161 (ones.flatMap On.cs)) :: (nb, row 118 (nws.map pp ++ sn)) :: (ob, row 118 (ols.map pp ++ so)) :: T) (fun v M' => v = .tuple #[.agg #[.int .i64 0, .int .i64 0, .int .i64 0, .int .i64 0, .int .i64 0, .int .i64 0, .int .i64 0], .int .i64 2] ∧ M' = (gateO gb c rb (some ⟨nb, 0, none⟩) N cn (some ⟨ob, 0, none⟩) N co (ref + 1) :: ringO rb c.seed lb N c.grace asked :: (lb, row 161 (ones.flatMap On.cs)) :: (nb, row 118 (nws.map pp ++ sn)) :: (ob, row 118 (ols.map pp ++ so)) :: T)) := by
  refine FnC.intro Try.func32 rfl 42 rfl (by simp) (fun z => ?_)
  refine TC.env (E' := [(0, _), (1, _), (2, _), (3, _)]) (Sub.cons rfl (Sub.cons rfl (Sub.cons rfl (Sub.cons rfl (Sub.nil _))))) ?_
  refine TC.seq ?_
  refine TC.region ?_
  refine TL.does (some 8) rfl rfl rfl (Does.alloc ze61 rfl) ?_
  rintro _ _ ⟨b1, rfl, rfl⟩
  refine TL.val rfl rfl (Nat.le_of_ble_eq_true rfl) (Val.assign rfl) ?_
  refine TL.nil ?_
  refine AtX.then ?_
  refine TC.seq ?_
  refine TC.seq ?_
  refine TC.region ?_
  refine TL.val rfl rfl (Nat.le_of_ble_eq_true rfl) (Val.move rfl) ?_
  refine TL.val rfl rfl (Nat.le_of_ble_eq_true rfl) (Val.eqlNil rfl rfl pt55) ?_
  refine TL.nil ?_
  refine AtX.then ?_
  refine TC.env (E' := [(0, _), (1, _), (2, _), (3, _), (8, _), (9, _), (15, _)]) (Sub.cons rfl (Sub.cons rfl (Sub.cons rfl (Sub.cons rfl (Sub.cons rfl (Sub.cons rfl (Sub.cons rfl (Sub.nil _)))))))) ?_
  first | refine TC.condP rfl (fun c1 => ?_) (fun c1 => ?_) | refine TC.condN rfl (fun c1 => ?_) (fun c1 => ?_) | refine TC.condB rfl (fun c1 => ?_) (fun c1 => ?_) | refine TC.cond rfl (fun c1 => ?_) (fun c1 => ?_)
  · skip
    (exfalso; simp at c1)
  · skip
    refine TC.env (E' := [(0, _), (1, _), (2, _), (3, _), (8, _), (9, _)]) (Sub.cons rfl (Sub.cons rfl (Sub.cons rfl (Sub.cons rfl (Sub.cons rfl (Sub.cons rfl (Sub.nil _))))))) ?_
    refine TC.skip ?_
    refine AtX.then ?_
    refine TC.env (E' := [(0, _), (1, _), (2, _), (3, _), (8, _), (9, _)]) (Sub.cons rfl (Sub.cons rfl (Sub.cons rfl (Sub.cons rfl (Sub.cons rfl (Sub.cons rfl (Sub.nil _))))))) ?_
    refine TC.seq ?_
    refine TC.region ?_
    refine TL.val rfl rfl (Nat.le_of_ble_eq_true rfl) (Val.move rfl) ?_
    refine TL.does (some 19) rfl rfl rfl (Does.callF go42 rfl (Split_no A n cc _ hn)) ?_
    rintro _ _ ⟨rfl, rfl⟩
    refine TL.val rfl rfl (Nat.le_of_ble_eq_true rfl) (Val.move rfl) ?_
    refine TL.val rfl rfl (Nat.le_of_ble_eq_true rfl) (Val.extract rfl rfl) ?_
    refine TL.val rfl rfl (Nat.le_of_ble_eq_true rfl) (Val.extract rfl rfl) ?_
    refine TL.val rfl rfl (Nat.le_of_ble_eq_true rfl) (Val.extract rfl rfl) ?_
    refine TL.val rfl rfl (Nat.le_of_ble_eq_true rfl) (Val.extract rfl rfl) ?_
    refine TL.does (some 10) rfl rfl rfl (Does.alloc ze61 rfl) ?_
    rintro _ _ ⟨bM, rfl, rfl⟩
    refine TL.does (some 12) rfl rfl rfl (Does.alloc ze73 rfl) ?_
    rintro _ _ ⟨bT_, rfl, rfl⟩
    refine TL.does none rfl rfl rfl (Does.store (i := 1) rfl rfl rfl sz61 rfl rfl (by first | exact Nat.le_of_ble_eq_true rfl | decide | omega) rfl rfl) ?_
    rintro _ _ ⟨rfl, rfl⟩
    refine TL.val rfl rfl (Nat.le_of_ble_eq_true rfl) (Val.assign rfl) ?_
    refine TL.does none rfl rfl rfl (Does.store (i := 0) rfl rfl rfl sz73 rfl rfl (by first | exact Nat.le_of_ble_eq_true rfl | decide | omega) rfl rfl) ?_
    rintro _ _ ⟨rfl, rfl⟩
    refine TL.val rfl rfl (Nat.le_of_ble_eq_true rfl) (Val.assign rfl) ?_
    refine TL.nil ?_
    refine AtX.then ?_
    refine TC.env (E' := [(0, _), (2, _), (3, _), (8, _), (9, _), (10, _), (11, _), (12, _), (13, _)]) (Sub.cons rfl (Sub.cons rfl (Sub.cons rfl (Sub.cons rfl (Sub.cons rfl (Sub.cons rfl (Sub.cons rfl (Sub.cons rfl (Sub.cons rfl (Sub.nil _)))))))))) ?_
    refine TC.seq ?_
    refine TC.seq ?_
    refine TC.heap (M' := (gateO gb c rb (some ⟨nb, 0, none⟩) N cn (some ⟨ob, 0, none⟩) N co ref :: ringO rb c.seed lb N c.grace asked :: (lb, row 161 (ones.flatMap On.cs)) :: (nb, row 118 (nws.map pp ++ sn)) :: (ob, row 118 (ols.map pp ++ so)) :: ((bT_, .cells #[.int .u64 0, .int .u64 0] 73 (0, 0)) :: (bM, .cells #[.int .i64 0, .int .i64 0, .int .i64 0, .int .i64 0, .int .i64 0, .int .i64 0, .int .i64 0] 61 (0, 0)) :: (b1, .cells #[.int .i64 0, .int .i64 0, .int .i64 0, .int .i64 0, .int .i64 0, .int .i64 0, .int .i64 0] 61 (0, 0)) :: T))) (fun w h => ro_mv (A := [_, _, _]) (L := [_, _, _, _, _]) w h) ?_
    refine TC.region ?_
    refine TL.val rfl rfl (Nat.le_of_ble_eq_true rfl) (Val.move rfl) ?_
    refine TL.val rfl rfl (Nat.le_of_ble_eq_true rfl) (Val.eqlI rfl rfl) ?_
    refine TL.nil ?_
    refine AtX.then ?_
    refine TC.env (E' := [(0, _), (2, _), (3, _), (8, _), (9, _), (10, _), (11, _), (12, _), (13, _), (25, _)]) (Sub.cons rfl (Sub.cons rfl (Sub.cons rfl (Sub.cons rfl (Sub.cons rfl (Sub.cons rfl (Sub.cons rfl (Sub.cons rfl (Sub.cons rfl (Sub.cons rfl (Sub.nil _))))))))))) ?_
    first | refine TC.condP rfl (fun c2 => ?_) (fun c2 => ?_) | refine TC.condN rfl (fun c2 => ?_) (fun c2 => ?_) | refine TC.condB rfl (fun c2 => ?_) (fun c2 => ?_) | refine TC.cond rfl (fun c2 => ?_) (fun c2 => ?_)
    · skip
      (exfalso; simp at c2)
    · skip
      refine TC.env (E' := [(0, _), (8, _), (9, _), (10, _), (13, _)]) (Sub.cons rfl (Sub.cons rfl (Sub.cons rfl (Sub.cons rfl (Sub.cons rfl (Sub.nil _)))))) ?_
      refine TC.skip ?_
      refine AtX.then ?_
      refine TC.env (E' := [(0, _), (8, _), (9, _), (10, _), (13, _)]) (Sub.cons rfl (Sub.cons rfl (Sub.cons rfl (Sub.cons rfl (Sub.cons rfl (Sub.nil _)))))) ?_
      refine TC.seq ?_
      refine TC.seq ?_
      refine TC.region ?_
      refine TL.val rfl rfl (Nat.le_of_ble_eq_true rfl) (Val.move rfl) ?_
      refine TL.val rfl rfl (Nat.le_of_ble_eq_true rfl) (Val.neqI rfl rfl) ?_
      refine TL.nil ?_
      refine AtX.then ?_
      refine TC.env (E' := [(0, _), (8, _), (9, _), (10, _), (13, _), (34, _)]) (Sub.cons rfl (Sub.cons rfl (Sub.cons rfl (Sub.cons rfl (Sub.cons rfl (Sub.cons rfl (Sub.nil _))))))) ?_
      first | refine TC.condP rfl (fun c3 => ?_) (fun c3 => ?_) | refine TC.condN rfl (fun c3 => ?_) (fun c3 => ?_) | refine TC.condB rfl (fun c3 => ?_) (fun c3 => ?_) | refine TC.cond rfl (fun c3 => ?_) (fun c3 => ?_)
      · skip
        refine TC.env (E' := [(0, _), (8, _), (9, _), (10, _), (13, _)]) (Sub.cons rfl (Sub.cons rfl (Sub.cons rfl (Sub.cons rfl (Sub.cons rfl (Sub.nil _)))))) ?_
        refine TC.seq ?_
        refine TC.region ?_
        refine TL.val rfl rfl (Nat.le_of_ble_eq_true rfl) (Val.move rfl) ?_
        refine TL.val rfl rfl (Nat.le_of_ble_eq_true rfl) (Val.nilCheck rfl) ?_
        refine TL.val rfl rfl (Nat.le_of_ble_eq_true rfl) (Val.fieldAddr rfl fl117_4 sz92 rfl) ?_
        refine TL.does (some 38) rfl rfl rfl (Does.callF go52 rfl (aAdd_fn gb 29 0 _ _ ref 1 (ref + 1) _ rfl rfl (w_i64 (by omega) (by omega)))) ?_
        rintro _ _ ⟨rfl, rfl⟩
        refine TL.nil ?_
        refine AtX.then ?_
        refine TC.env (E' := [(8, _), (9, _), (10, _), (13, _)]) (Sub.cons rfl (Sub.cons rfl (Sub.cons rfl (Sub.cons rfl (Sub.nil _))))) ?_
        refine TC.seq ?_
        refine TC.region ?_
        refine TL.val rfl rfl (Nat.le_of_ble_eq_true rfl) (Val.buildS pl61 ze61 rfl rfl) ?_
        refine TL.val rfl rfl (Nat.le_of_ble_eq_true rfl) (Val.move rfl) ?_
        refine TL.does none rfl rfl rfl (Does.store (i := 7) rfl rfl rfl sz61 rfl rfl (by first | exact Nat.le_of_ble_eq_true rfl | decide | omega) rfl rfl) ?_
        rintro _ _ ⟨rfl, rfl⟩
        refine TL.val rfl rfl (Nat.le_of_ble_eq_true rfl) (Val.assign rfl) ?_
        refine TL.nil ?_
        refine AtX.then ?_
        refine TC.env (E' := [(8, _), (9, _), (10, _)]) (Sub.cons rfl (Sub.cons rfl (Sub.cons rfl (Sub.nil _)))) ?_
        refine TC.ret2 (fn := Try.f32) (fun _ _ h => h) rfl (RV.agg (i := 7) rfl ag61 sz61 rfl rfl rfl) (RV.tmp rfl) (M' := (gateO gb c rb (some ⟨nb, 0, none⟩) N cn (some ⟨ob, 0, none⟩) N co (ref + 1) :: ringO rb c.seed lb N c.grace asked :: (lb, row 161 (ones.flatMap On.cs)) :: (nb, row 118 (nws.map pp ++ sn)) :: (ob, row 118 (ols.map pp ++ so)) :: T)) (fun w h => (ro_mv (A := [_, _, _, _, _]) (L := [_, _, _]) w h).drop.drop.drop) ?_
        exact ⟨rfl, rfl⟩
      · skip
        (exfalso; simp at c3)

end Go.Proofs.Ytphoapajlcaoeaa
/- walks -/
set_option linter.unusedVariables false
set_option linter.unusedSimpArgs false
set_option maxRecDepth 100000
set_option maxHeartbeats 4000000
namespace Go.Proofs.Ytphoapajlcaoeaa
open Go Go.X
/-- (*quorumite/verify.Gate).Check -/
theorem Check_out (gb rb lb nb cn ob co : Nat) (sn so : List Value) (c : Cf) (N : Nat) (asked ref : Int) (ones : List On) (nws ols : List Nat) (T : Hp) (hN : c.n = N) (h1 : ones.length = N) (h2 : nws.length = N) (h3 : ols.length = N) (hgr : 1 ≤ c.grace ∧ c.grace ≤ 100) (has : 0 ≤ asked ∧ asked ≤ 90000) (k : Nat) (x : On) (hx : ones[k]? = some x) (hxb : 0 ≤ x.gen ∧ x.gen ≤ 60000) (hxs : 0 ≤ x.since ∧ x.since ≤ 1099511627776) (kind gen sq ep va me : Int) (hgen : -1000000 ≤ gen ∧ gen ≤ 1000000) (hk2 : kind = 2 → gen - 1 = x.gen) (now : Int) (hc : OkC c) (p p2 : Nat) (hp : nws[k]? = some p) (hp2 : ols[k]? = some p2) (ip : Nat) (top bits rr : Int) (htop : 0 ≤ top ∧ top ≤ 1000000) (hrep : T[ip]? = some (repO (if sgen kind gen = x.gen then p else p2) c.window top bits rr)) (hnow : 0 ≤ now ∧ now ≤ 1099511627776) (hm : mayM ⟨kind, (k : Nat), gen, sq, ep, va, me⟩ = true) (href : 0 ≤ ref ∧ ref ≤ 100000) (tl : List UInt8) (A : Option Addr) (cc : Nat) (hA : RdS T A (bv (putM ⟨kind, (k : Nat), gen, sq, ep, va, me⟩ ++ tl))) (hcc : 48 ≤ cc) (htl : tl.length = 16) (hk2n : ((k : Nat) : Int) ≠ 2)  : FnC Try.prog 32 #[.pointer (some ⟨gb, 0, none⟩), .slice A 48 cc, .int .i64 now, .func (.func 41) #[] #[]] (gateO gb c rb (some ⟨nb, 0, none⟩) N cn (some ⟨ob, 0, none⟩) N co ref :: ringO rb c.seed lb N c.grace asked :: (lb, row 161 (ones.flatMap On.cs)) :: (nb, row 118 (nws.map pp ++ sn)) :: (ob, row 118 (ols.map pp ++ so)) :: T) (fun v M' => ((chkC (okK x (sgen kind gen) now c.grace) (decide (bitsOf .or .u64 (xor64 (tagOf (if okK x (sgen kind gen) now c.grace = true then (macKey c.seed (k : Nat) (sgen kind gen)) else ⟨0, 0⟩) (putM ⟨kind, (k : Nat), gen, sq, ep, va, me⟩)).a (⟨((get8 tl 0 : Nat) : Int), ((get8 tl 8 : Nat) : Int)⟩ : K2).a) (xor64 (tagOf (if okK x (sgen kind gen) now c.grace = true then (macKey c.seed (k : Nat) (sgen kind gen)) else ⟨0, 0⟩) (putM ⟨kind, (k : Nat), gen, sq, ep, va, me⟩)).b (⟨((get8 tl 0 : Nat) : Int), ((get8 tl 8 : Nat) : Int)⟩ : K2).b) = 0)) (mayP c.window top bits sq) (decide (ep < now) || decide (c.fresh ≤ IntKind.u64.wrap (ep - now))) (decide (me < c.m))) = 0 ∧ v = .tuple #[.agg #[.int .i64 kind, .int .i64 ((k : Nat) : Int), .int .i64 gen, .int .i64 sq, .int .i64 ep, .int .i64 va, .int .i64 me], .int .i64 0] ∧ M' = (gateO gb c rb (some ⟨nb, 0, none⟩) N cn (some ⟨ob, 0, none⟩) N co ref :: ringO rb c.seed lb N c.grace (asked + 1) :: (lb, row 161 (ones.flatMap On.cs)) :: (nb, row 118 (nws.map pp ++ sn)) :: (ob, row 118 (ols.map pp ++ so)) :: T)) ∨ ((chkC (okK x (sgen kind gen) now c.grace) (decide (bitsOf .or .u64 (xor64 (tagOf (if okK x (sgen kind gen) now c.grace = true then (macKey c.seed (k : Nat) (sgen kind gen)) else ⟨0, 0⟩) (putM ⟨kind, (k : Nat), gen, sq, ep, va, me⟩)).a (⟨((get8 tl 0 : Nat) : Int), ((get8 tl 8 : Nat) : Int)⟩ : K2).a) (xor64 (tagOf (if okK x (sgen kind gen) now c.grace = true then (macKey c.seed (k : Nat) (sgen kind gen)) else ⟨0, 0⟩) (putM ⟨kind, (k : Nat), gen, sq, ep, va, me⟩)).b (⟨((get8 tl 0 : Nat) : Int), ((get8 tl 8 : Nat) : Int)⟩ : K2).b) = 0)) (mayP c.window top bits sq) (decide (ep < now) || decide (c.fresh ≤ IntKind.u64.wrap (ep - now))) (decide (me < c.m))) ≠ 0 ∧ v = .tuple #[.agg #[.int .i64 0, .int .i64 0, .int .i64 0, .int .i64 0, .int .i64 0, .int .i64 0, .int .i64 0], .int .i64 (chkC (okK x (sgen kind gen) now c.grace) (decide (bitsOf .or .u64 (xor64 (tagOf (if okK x (sgen kind gen) now c.grace = true then (macKey c.seed (k : Nat) (sgen kind gen)) else ⟨0, 0⟩) (putM ⟨kind, (k : Nat), gen, sq, ep, va, me⟩)).a (⟨((get8 tl 0 : Nat) : Int), ((get8 tl 8 : Nat) : Int)⟩ : K2).a) (xor64 (tagOf (if okK x (sgen kind gen) now c.grace = true then (macKey c.seed (k : Nat) (sgen kind gen)) else ⟨0, 0⟩) (putM ⟨kind, (k : Nat), gen, sq, ep, va, me⟩)).b (⟨((get8 tl 0 : Nat) : Int), ((get8 tl 8 : Nat) : Int)⟩ : K2).b) = 0)) (mayP c.window top bits sq) (decide (ep < now) || decide (c.fresh ≤ IntKind.u64.wrap (ep - now))) (decide (me < c.m)))] ∧ M' = (gateO gb c rb (some ⟨nb, 0, none⟩) N cn (some ⟨ob, 0, none⟩) N co (ref + 1) :: ringO rb c.seed lb N c.grace (asked + 1) :: (lb, row 161 (ones.flatMap On.cs)) :: (nb, row 118 (nws.map pp ++ sn)) :: (ob, row 118 (ols.map pp ++ so)) :: T))) := by
  obtain ⟨C, hC⟩ : ∃ C, C = chkC (okK x (sgen kind gen) now c.grace) (decide (bitsOf .or .u64 (xor64 (tagOf (if okK x (sgen kind gen) now c.grace = true then (macKey c.seed (k : Nat) (sgen kind gen)) else ⟨0, 0⟩) (putM ⟨kind, (k : Nat), gen, sq, ep, va, me⟩)).a (⟨((get8 tl 0 : Nat) : Int), ((get8 tl 8 : Nat) : Int)⟩ : K2).a) (xor64 (tagOf (if okK x (sgen kind gen) now c.grace = true then (macKey c.seed (k : Nat) (sgen kind gen)) else ⟨0, 0⟩) (putM ⟨kind, (k : Nat), gen, sq, ep, va, me⟩)).b (⟨((get8 tl 0 : Nat) : Int), ((get8 tl 8 : Nat) : Int)⟩ : K2).b) = 0)) (mayP c.window top bits sq) (decide (ep < now) || decide (c.fresh ≤ IntKind.u64.wrap (ep - now))) (decide (me < c.m)) := ⟨_, rfl⟩
  rw [← hC]
  have hmi := mayM_iff.1 hm
  simp only at hmi
  refine FnC.intro Try.func32 rfl 42 rfl (by simp) (fun z => ?_)
  refine TC.env (E' := [(0, _), (1, _), (2, _), (3, _)]) (Sub.cons rfl (Sub.cons rfl (Sub.cons rfl (Sub.cons rfl (Sub.nil _))))) ?_
  refine TC.seq ?_
  refine TC.region ?_
  refine TL.does (some 8) rfl rfl rfl (Does.alloc ze61 rfl) ?_
  rintro _ _ ⟨b1, rfl, rfl⟩
  refine TL.val rfl rfl (Nat.le_of_ble_eq_true rfl) (Val.assign rfl) ?_
  refine TL.nil ?_
  refine AtX.then ?_
  refine TC.seq ?_
  refine TC.seq ?_
  refine TC.region ?_
  refine TL.val rfl rfl (Nat.le_of_ble_eq_true rfl) (Val.move rfl) ?_
  refine TL.val rfl rfl (Nat.le_of_ble_eq_true rfl) (Val.eqlNil rfl rfl pt55) ?_
  refine TL.nil ?_
  refine AtX.then ?_
  refine TC.env (E' := [(0, _), (1, _), (2, _), (3, _), (8, _), (9, _), (15, _)]) (Sub.cons rfl (Sub.cons rfl (Sub.cons rfl (Sub.cons rfl (Sub.cons rfl (Sub.cons rfl (Sub.cons rfl (Sub.nil _)))))))) ?_
  first | refine TC.condP rfl (fun c1 => ?_) (fun c1 => ?_) | refine TC.condN rfl (fun c1 => ?_) (fun c1 => ?_) | refine TC.condB rfl (fun c1 => ?_) (fun c1 => ?_) | refine TC.cond rfl (fun c1 => ?_) (fun c1 => ?_)
  · skip
    (exfalso; simp at c1)
  · skip
    refine TC.env (E' := [(0, _), (1, _), (2, _), (3, _), (8, _), (9, _)]) (Sub.cons rfl (Sub.cons rfl (Sub.cons rfl (Sub.cons rfl (Sub.cons rfl (Sub.cons rfl (Sub.nil _))))))) ?_
    refine TC.skip ?_
    refine AtX.then ?_
    refine TC.env (E' := [(0, _), (1, _), (2, _), (3, _), (8, _), (9, _)]) (Sub.cons rfl (Sub.cons rfl (Sub.cons rfl (Sub.cons rfl (Sub.cons rfl (Sub.cons rfl (Sub.nil _))))))) ?_
    refine TC.seq ?_
    refine TC.region ?_
    refine TL.val rfl rfl (Nat.le_of_ble_eq_true rfl) (Val.move rfl) ?_
    refine TL.does (some 19) rfl rfl rfl (Does.callF go42 rfl (Split_fn ⟨kind, (k : Nat), gen, sq, ep, va, me⟩ tl A 48 cc _ ((((((hA.cons _).cons _).cons _).cons _).cons _).cons _) rfl hcc htl hm)) ?_
    rintro _ _ ⟨σ, rfl, hokσ, rfl⟩
    obtain ⟨bc, cc2, spc, rfl, hcc2⟩ := hokσ.some (by omega)
    refine TL.val rfl rfl (Nat.le_of_ble_eq_true rfl) (Val.move rfl) ?_
    refine TL.val rfl rfl (Nat.le_of_ble_eq_true rfl) (Val.extract rfl rfl) ?_
    refine TL.val rfl rfl (Nat.le_of_ble_eq_true rfl) (Val.extract rfl rfl) ?_
    refine TL.val rfl rfl (Nat.le_of_ble_eq_true rfl) (Val.extract rfl rfl) ?_
    refine TL.val rfl rfl (Nat.le_of_ble_eq_true rfl) (Val.extract rfl rfl) ?_
    refine TL.does (some 10) rfl rfl rfl (Does.alloc ze61 rfl) ?_
    rintro _ _ ⟨bM, rfl, rfl⟩
    refine TL.does (some 12) rfl rfl rfl (Does.alloc ze73 rfl) ?_
    rintro _ _ ⟨bT_, rfl, rfl⟩
    refine TL.does none rfl rfl rfl (Does.store (i := 1) rfl rfl rfl sz61 rfl rfl (by first | exact Nat.le_of_ble_eq_true rfl | decide | omega) rfl rfl) ?_
    rintro _ _ ⟨rfl, rfl⟩
    refine TL.val rfl rfl (Nat.le_of_ble_eq_true rfl) (Val.assign rfl) ?_
    refine TL.does none rfl rfl rfl (Does.store (i := 0) rfl rfl rfl sz73 rfl rfl (by first | exact Nat.le_of_ble_eq_true rfl | decide | omega) rfl rfl) ?_
    rintro _ _ ⟨rfl, rfl⟩
    refine TL.val rfl rfl (Nat.le_of_ble_eq_true rfl) (Val.assign rfl) ?_
    refine TL.nil ?_
    refine AtX.then ?_
    refine TC.env (E' := [(0, _), (2, _), (3, _), (8, _), (9, _), (10, _), (11, _), (12, _), (13, _)]) (Sub.cons rfl (Sub.cons rfl (Sub.cons rfl (Sub.cons rfl (Sub.cons rfl (Sub.cons rfl (Sub.cons rfl (Sub.cons rfl (Sub.cons rfl (Sub.nil _)))))))))) ?_
    refine TC.seq ?_
    refine TC.seq ?_
    refine TC.heap (M' := (gateO gb c rb (some ⟨nb, 0, none⟩) N cn (some ⟨ob, 0, none⟩) N co ref :: ringO rb c.seed lb N c.grace asked :: (lb, row 161 (ones.flatMap On.cs)) :: (nb, row 118 (nws.map pp ++ sn)) :: (ob, row 118 (ols.map pp ++ so)) :: ((bT_, .cells #[.int .u64 ((get8 tl 0 : Nat) : Int), .int .u64 ((get8 tl 8 : Nat) : Int)] 73 (0, 0)) :: (bM, .cells #[.int .i64 kind, .int .i64 ((k : Nat) : Int), .int .i64 gen, .int .i64 sq, .int .i64 ep, .int .i64 va, .int .i64 me] 61 (0, 0)) :: (bc, row 5 (bv (putM ⟨kind, (k : Nat), gen, sq, ep, va, me⟩) ++ spc)) :: (b1, .cells #[.int .i64 0, .int .i64 0, .int .i64 0, .int .i64 0, .int .i64 0, .int .i64 0, .int .i64 0] 61 (0, 0)) :: T))) (fun w h => ro_mv (A := [_, _, _, _]) (L := [_, _, _, _, _]) w h) ?_
    refine TC.region ?_
    refine TL.val rfl rfl (Nat.le_of_ble_eq_true rfl) (Val.move rfl) ?_
    refine TL.val rfl rfl (Nat.le_of_ble_eq_true rfl) (Val.eqlI rfl rfl) ?_
    refine TL.nil ?_
    refine AtX.then ?_
    refine TC.env (E' := [(0, _), (2, _), (3, _), (8, _), (9, _), (10, _), (11, _), (12, _), (13, _), (25, _)]) (Sub.cons rfl (Sub.cons rfl (Sub.cons rfl (Sub.cons rfl (Sub.cons rfl (Sub.cons rfl (Sub.cons rfl (Sub.cons rfl (Sub.cons rfl (Sub.cons rfl (Sub.nil _))))))))))) ?_
    first | refine TC.condP rfl (fun c2 => ?_) (fun c2 => ?_) | refine TC.condN rfl (fun c2 => ?_) (fun c2 => ?_) | refine TC.condB rfl (fun c2 => ?_) (fun c2 => ?_) | refine TC.cond rfl (fun c2 => ?_) (fun c2 => ?_)
    · skip
      refine TC.env (E' := [(0, _), (2, _), (3, _), (8, _), (9, _), (10, _), (11, _), (12, _), (13, _)]) (Sub.cons rfl (Sub.cons rfl (Sub.cons rfl (Sub.cons rfl (Sub.cons rfl (Sub.cons rfl (Sub.cons rfl (Sub.cons rfl (Sub.cons rfl (Sub.nil _)))))))))) ?_
      refine TC.region ?_
      refine TL.val rfl rfl (Nat.le_of_ble_eq_true rfl) (Val.move rfl) ?_
      refine TL.val rfl rfl (Nat.le_of_ble_eq_true rfl) (Val.loadAgg 6 rfl ag61 sz61 rfl rfl rfl) ?_
      refine TL.val rfl rfl (Nat.le_of_ble_eq_true rfl) (Val.move rfl) ?_
      refine TL.val rfl rfl (Nat.le_of_ble_eq_true rfl) (Val.loadAgg 5 rfl ag73 sz73 rfl rfl rfl) ?_
      refine TL.val rfl rfl (Nat.le_of_ble_eq_true rfl) (Val.move rfl) ?_
      refine TL.val rfl rfl (Nat.le_of_ble_eq_true rfl) (Val.move rfl) ?_
      refine TL.does (some 32) rfl rfl rfl (Does.callF go63 rfl (check_out gb rb lb nb cn ob co sn so c N asked ref ones nws ols _ hN h1 h2 h3 hgr has k x hx hxb hxs kind gen sq ep va me hgen hk2 now hc p p2 hp hp2 (ip + 4) top bits rr htop hrep ⟨by omega, by omega⟩ ⟨by omega, by omega⟩ hnow (putM ⟨kind, (k : Nat), gen, sq, ep, va, me⟩) _ 32 cc2 (rd_all (i := 2) rfl) (by simp) (by simp) ⟨((get8 tl 0 : Nat) : Int), ((get8 tl 8 : Nat) : Int)⟩ hk2n)) ?_
      rintro _ _ ⟨rfl, rfl⟩
      rw [← hC]
      refine TL.val rfl rfl (Nat.le_of_ble_eq_true rfl) (Val.assign rfl) ?_
      refine TL.nil ?_
      refine AtX.then ?_
      refine TC.env (E' := [(0, _), (8, _), (9, _), (10, _), (13, _)]) (Sub.cons rfl (Sub.cons rfl (Sub.cons rfl (Sub.cons rfl (Sub.cons rfl (Sub.nil _)))))) ?_
      refine TC.seq ?_
      refine TC.seq ?_
      refine TC.region ?_
      refine TL.val rfl rfl (Nat.le_of_ble_eq_true rfl) (Val.move rfl) ?_
      refine TL.val rfl rfl (Nat.le_of_ble_eq_true rfl) (Val.neqI rfl rfl) ?_
      refine TL.nil ?_
      refine AtX.then ?_
      refine TC.env (E' := [(0, _), (8, _), (9, _), (10, _), (13, _), (34, _)]) (Sub.cons rfl (Sub.cons rfl (Sub.cons rfl (Sub.cons rfl (Sub.cons rfl (Sub.cons rfl (Sub.nil _))))))) ?_
      first | refine TC.condP rfl (fun c3 => ?_) (fun c3 => ?_) | refine TC.condN rfl (fun c3 => ?_) (fun c3 => ?_) | refine TC.condB rfl (fun c3 => ?_) (fun c3 => ?_) | refine TC.cond rfl (fun c3 => ?_) (fun c3 => ?_)
      · skip
        refine TC.env (E' := [(0, _), (8, _), (9, _), (10, _), (13, _)]) (Sub.cons rfl (Sub.cons rfl (Sub.cons rfl (Sub.cons rfl (Sub.cons rfl (Sub.nil _)))))) ?_
        refine TC.seq ?_
        refine TC.region ?_
        refine TL.val rfl rfl (Nat.le_of_ble_eq_true rfl) (Val.move rfl) ?_
        refine TL.val rfl rfl (Nat.le_of_ble_eq_true rfl) (Val.nilCheck rfl) ?_
        refine TL.val rfl rfl (Nat.le_of_ble_eq_true rfl) (Val.fieldAddr rfl fl117_4 sz92 rfl) ?_
        refine TL.does (some 38) rfl rfl rfl (Does.callF go52 rfl (aAdd_fn gb 29 0 _ _ ref 1 (ref + 1) _ rfl rfl (w_i64 (by omega) (by omega)))) ?_
        rintro _ _ ⟨rfl, rfl⟩
        refine TL.nil ?_
        refine AtX.then ?_
        refine TC.env (E' := [(8, _), (9, _), (10, _), (13, _)]) (Sub.cons rfl (Sub.cons rfl (Sub.cons rfl (Sub.cons rfl (Sub.nil _))))) ?_
        refine TC.seq ?_
        refine TC.region ?_
        refine TL.val rfl rfl (Nat.le_of_ble_eq_true rfl) (Val.buildS pl61 ze61 rfl rfl) ?_
        refine TL.val rfl rfl (Nat.le_of_ble_eq_true rfl) (Val.move rfl) ?_
        refine TL.does none rfl rfl rfl (Does.store (i := 8) rfl rfl rfl sz61 rfl rfl (by first | exact Nat.le_of_ble_eq_true rfl | decide | omega) rfl rfl) ?_
        rintro _ _ ⟨rfl, rfl⟩
        refine TL.val rfl rfl (Nat.le_of_ble_eq_true rfl) (Val.assign rfl) ?_
        refine TL.nil ?_
        refine AtX.then ?_
        refine TC.env (E' := [(8, _), (9, _), (10, _)]) (Sub.cons rfl (Sub.cons rfl (Sub.cons rfl (Sub.nil _)))) ?_
        refine TC.ret2 (fn := Try.f32) (fun _ _ h => h) rfl (RV.agg (i := 8) rfl ag61 sz61 rfl rfl rfl) (RV.tmp rfl) (M' := (gateO gb c rb (some ⟨nb, 0, none⟩) N cn (some ⟨ob, 0, none⟩) N co (ref + 1) :: ringO rb c.seed lb N c.grace (asked + 1) :: (lb, row 161 (ones.flatMap On.cs)) :: (nb, row 118 (nws.map pp ++ sn)) :: (ob, row 118 (ols.map pp ++ so)) :: T)) (fun w h => (ro_mv (A := [_, _, _, _, _]) (L := [_, _, _, _]) w h).drop.drop.drop.drop) ?_
        first | exact .inl ⟨by omega, rfl, rfl⟩ | exact .inr ⟨by assumption, rfl, rfl⟩
      · skip
        refine TC.env (E' := [(8, _), (9, _), (10, _)]) (Sub.cons rfl (Sub.cons rfl (Sub.cons rfl (Sub.nil _)))) ?_
        refine TC.skip ?_
        refine AtX.then ?_
        refine TC.env (E' := [(8, _), (9, _), (10, _)]) (Sub.cons rfl (Sub.cons rfl (Sub.cons rfl (Sub.nil _)))) ?_
        refine TC.seq ?_
        refine TC.region ?_
        refine TL.val rfl rfl (Nat.le_of_ble_eq_true rfl) (Val.loadAgg 6 rfl ag61 sz61 rfl rfl rfl) ?_
        refine TL.does none rfl rfl rfl (Does.store (i := 8) rfl rfl rfl sz61 rfl rfl (by first | exact Nat.le_of_ble_eq_true rfl | decide | omega) rfl rfl) ?_
        rintro _ _ ⟨rfl, rfl⟩
        refine TL.val rfl rfl (Nat.le_of_ble_eq_true rfl) (Val.assign rfl) ?_
        refine TL.nil ?_
        refine AtX.then ?_
        refine TC.env (E' := [(8, _), (9, _)]) (Sub.cons rfl (Sub.cons rfl (Sub.nil _))) ?_
        refine TC.ret2 (fn := Try.f32) (fun _ _ h => h) rfl (RV.agg (i := 8) rfl ag61 sz61 rfl rfl rfl) (RV.tmp rfl) (M' := (gateO gb c rb (some ⟨nb, 0, none⟩) N cn (some ⟨ob, 0, none⟩) N co ref :: ringO rb c.seed lb N c.grace (asked + 1) :: (lb, row 161 (ones.flatMap On.cs)) :: (nb, row 118 (nws.map pp ++ sn)) :: (ob, row 118 (ols.map pp ++ so)) :: T)) (fun w h => (ro_mv (A := [_, _, _, _, _]) (L := [_, _, _, _]) w h).drop.drop.drop.drop) ?_
        first | exact .inl ⟨by omega, rfl, rfl⟩ | exact .inr ⟨by assumption, rfl, rfl⟩
    · skip
      exact absurd rfl c2

/-- (*quorumite/verify.Gate).Check -/
theorem Check_two (gb rb lb nb cn ob co : Nat) (sn so : List Value) (c : Cf) (N : Nat) (asked ref : Int) (ones : List On) (nws ols : List Nat) (T : Hp) (hN : c.n = N) (h1 : ones.length = N) (h2 : nws.length = N) (h3 : ols.length = N) (hgr : 1 ≤ c.grace ∧ c.grace ≤ 100) (has : 0 ≤ asked ∧ asked ≤ 90000) (k : Nat) (x : On) (hx : ones[k]? = some x) (hxb : 0 ≤ x.gen ∧ x.gen ≤ 60000) (hxs : 0 ≤ x.since ∧ x.since ≤ 1099511627776) (kind gen sq ep va me : Int) (hgen : -1000000 ≤ gen ∧ gen ≤ 1000000) (hk2 : kind = 2 → gen - 1 = x.gen) (now : Int) (hc : OkC c) (p p2 : Nat) (hp : nws[k]? = some p) (hp2 : ols[k]? = some p2) (ip : Nat) (top bits rr : Int) (htop : 0 ≤ top ∧ top ≤ 1000000) (hrep : T[ip]? = some (repO (if sgen kind gen = x.gen then p else p2) c.window top bits rr)) (hnow : 0 ≤ now ∧ now ≤ 1099511627776) (hm : mayM ⟨kind, (k : Nat), gen, sq, ep, va, me⟩ = true) (href : 0 ≤ ref ∧ ref ≤ 100000) (tl : List UInt8) (A : Option Addr) (cc : Nat) (hA : RdS T A (bv (putM ⟨kind, (k : Nat), gen, sq, ep, va, me⟩ ++ tl))) (hcc : 48 ≤ cc) (htl : tl.length = 16) (hk2n : ((k : Nat) : Int) = 2)  : FnC Try.prog 32 #[.pointer (some ⟨gb, 0, none⟩), .slice A 48 cc, .int .i64 now, .func (.func 41) #[] #[]] (gateO gb c rb (some ⟨nb, 0, none⟩) N cn (some ⟨ob, 0, none⟩) N co ref :: ringO rb c.seed lb N c.grace asked :: (lb, row 161 (ones.flatMap On.cs)) :: (nb, row 118 (nws.map pp ++ sn)) :: (ob, row 118 (ols.map pp ++ so)) :: T) (fun v M' => v = .tuple #[.agg #[.int .i64 0, .int .i64 0, .int .i64 0, .int .i64 0, .int .i64 0, .int .i64 0, .int .i64 0], .int .i64 3] ∧ M' = (gateO gb c rb (some ⟨nb, 0, none⟩) N cn (some ⟨ob, 0, none⟩) N co (ref + 1) :: ringO rb c.seed lb N c.grace asked :: (lb, row 161 (ones.flatMap On.cs)) :: (nb, row 118 (nws.map pp ++ sn)) :: (ob, row 118 (ols.map pp ++ so)) :: T)) := by
  have hmi := mayM_iff.1 hm
  simp only at hmi
  refine FnC.intro Try.func32 rfl 42 rfl (by simp) (fun z => ?_)
  refine TC.env (E' := [(0, _), (1, _), (2, _), (3, _)]) (Sub.cons rfl (Sub.cons rfl (Sub.cons rfl (Sub.cons rfl (Sub.nil _))))) ?_
  refine TC.seq ?_
  refine TC.region ?_
  refine TL.does (some 8) rfl rfl rfl (Does.alloc ze61 rfl) ?_
  rintro _ _ ⟨b1, rfl, rfl⟩
  refine TL.val rfl rfl (Nat.le_of_ble_eq_true rfl) (Val.assign rfl) ?_
  refine TL.nil ?_
  refine AtX.then ?_
  refine TC.seq ?_
  refine TC.seq ?_
  refine TC.region ?_
  refine TL.val rfl rfl (Nat.le_of_ble_eq_true rfl) (Val.move rfl) ?_
  refine TL.val rfl rfl (Nat.le_of_ble_eq_true rfl) (Val.eqlNil rfl rfl pt55) ?_
  refine TL.nil ?_
  refine AtX.then ?_
  refine TC.env (E' := [(0, _), (1, _), (2, _), (3, _), (8, _), (9, _), (15, _)]) (Sub.cons rfl (Sub.cons rfl (Sub.cons rfl (Sub.cons rfl (Sub.cons rfl (Sub.cons rfl (Sub.cons rfl (Sub.nil _)))))))) ?_
  first | refine TC.condP rfl (fun c1 => ?_) (fun c1 => ?_) | refine TC.condN rfl (fun c1 => ?_) (fun c1 => ?_) | refine TC.condB rfl (fun c1 => ?_) (fun c1 => ?_) | refine TC.cond rfl (fun c1 => ?_) (fun c1 => ?_)
  · skip
    (exfalso; simp at c1)
  · skip
    refine TC.env (E' := [(0, _), (1, _), (2, _), (3, _), (8, _), (9, _)]) (Sub.cons rfl (Sub.cons rfl (Sub.cons rfl (Sub.cons rfl (Sub.cons rfl (Sub.cons rfl (Sub.nil _))))))) ?_
    refine TC.skip ?_
    refine AtX.then ?_
    refine TC.env (E' := [(0, _), (1, _), (2, _), (3, _), (8, _), (9, _)]) (Sub.cons rfl (Sub.cons rfl (Sub.cons rfl (Sub.cons rfl (Sub.cons rfl (Sub.cons rfl (Sub.nil _))))))) ?_
    refine TC.seq ?_
    refine TC.region ?_
    refine TL.val rfl rfl (Nat.le_of_ble_eq_true rfl) (Val.move rfl) ?_
    refine TL.does (some 19) rfl rfl rfl (Does.callF go42 rfl (Split_fn ⟨kind, (k : Nat), gen, sq, ep, va, me⟩ tl A 48 cc _ ((((((hA.cons _).cons _).cons _).cons _).cons _).cons _) rfl hcc htl hm)) ?_
    rintro _ _ ⟨σ, rfl, hokσ, rfl⟩
    obtain ⟨bc, cc2, spc, rfl, hcc2⟩ := hokσ.some (by omega)
    refine TL.val rfl rfl (Nat.le_of_ble_eq_true rfl) (Val.move rfl) ?_
    refine TL.val rfl rfl (Nat.le_of_ble_eq_true rfl) (Val.extract rfl rfl) ?_
    refine TL.val rfl rfl (Nat.le_of_ble_eq_true rfl) (Val.extract rfl rfl) ?_
    refine TL.val rfl rfl (Nat.le_of_ble_eq_true rfl) (Val.extract rfl rfl) ?_
    refine TL.val rfl rfl (Nat.le_of_ble_eq_true rfl) (Val.extract rfl rfl) ?_
    refine TL.does (some 10) rfl rfl rfl (Does.alloc ze61 rfl) ?_
    rintro _ _ ⟨bM, rfl, rfl⟩
    refine TL.does (some 12) rfl rfl rfl (Does.alloc ze73 rfl) ?_
    rintro _ _ ⟨bT_, rfl, rfl⟩
    refine TL.does none rfl rfl rfl (Does.store (i := 1) rfl rfl rfl sz61 rfl rfl (by first | exact Nat.le_of_ble_eq_true rfl | decide | omega) rfl rfl) ?_
    rintro _ _ ⟨rfl, rfl⟩
    refine TL.val rfl rfl (Nat.le_of_ble_eq_true rfl) (Val.assign rfl) ?_
    refine TL.does none rfl rfl rfl (Does.store (i := 0) rfl rfl rfl sz73 rfl rfl (by first | exact Nat.le_of_ble_eq_true rfl | decide | omega) rfl rfl) ?_
    rintro _ _ ⟨rfl, rfl⟩
    refine TL.val rfl rfl (Nat.le_of_ble_eq_true rfl) (Val.assign rfl) ?_
    refine TL.nil ?_
    refine AtX.then ?_
    refine TC.env (E' := [(0, _), (2, _), (3, _), (8, _), (9, _), (10, _), (11, _), (12, _), (13, _)]) (Sub.cons rfl (Sub.cons rfl (Sub.cons rfl (Sub.cons rfl (Sub.cons rfl (Sub.cons rfl (Sub.cons rfl (Sub.cons rfl (Sub.cons rfl (Sub.nil _)))))))))) ?_
    refine TC.seq ?_
    refine TC.seq ?_
    refine TC.heap (M' := (gateO gb c rb (some ⟨nb, 0, none⟩) N cn (some ⟨ob, 0, none⟩) N co ref :: ringO rb c.seed lb N c.grace asked :: (lb, row 161 (ones.flatMap On.cs)) :: (nb, row 118 (nws.map pp ++ sn)) :: (ob, row 118 (ols.map pp ++ so)) :: ((bT_, .cells #[.int .u64 ((get8 tl 0 : Nat) : Int), .int .u64 ((get8 tl 8 : Nat) : Int)] 73 (0, 0)) :: (bM, .cells #[.int .i64 kind, .int .i64 ((k : Nat) : Int), .int .i64 gen, .int .i64 sq, .int .i64 ep, .int .i64 va, .int .i64 me] 61 (0, 0)) :: (bc, row 5 (bv (putM ⟨kind, (k : Nat), gen, sq, ep, va, me⟩) ++ spc)) :: (b1, .cells #[.int .i64 0, .int .i64 0, .int .i64 0, .int .i64 0, .int .i64 0, .int .i64 0, .int .i64 0] 61 (0, 0)) :: T))) (fun w h => ro_mv (A := [_, _, _, _]) (L := [_, _, _, _, _]) w h) ?_
    refine TC.region ?_
    refine TL.val rfl rfl (Nat.le_of_ble_eq_true rfl) (Val.move rfl) ?_
    refine TL.val rfl rfl (Nat.le_of_ble_eq_true rfl) (Val.eqlI rfl rfl) ?_
    refine TL.nil ?_
    refine AtX.then ?_
    refine TC.env (E' := [(0, _), (2, _), (3, _), (8, _), (9, _), (10, _), (11, _), (12, _), (13, _), (25, _)]) (Sub.cons rfl (Sub.cons rfl (Sub.cons rfl (Sub.cons rfl (Sub.cons rfl (Sub.cons rfl (Sub.cons rfl (Sub.cons rfl (Sub.cons rfl (Sub.cons rfl (Sub.nil _))))))))))) ?_
    first | refine TC.condP rfl (fun c2 => ?_) (fun c2 => ?_) | refine TC.condN rfl (fun c2 => ?_) (fun c2 => ?_) | refine TC.condB rfl (fun c2 => ?_) (fun c2 => ?_) | refine TC.cond rfl (fun c2 => ?_) (fun c2 => ?_)
    · skip
      refine TC.env (E' := [(0, _), (2, _), (3, _), (8, _), (9, _), (10, _), (11, _), (12, _), (13, _)]) (Sub.cons rfl (Sub.cons rfl (Sub.cons rfl (Sub.cons rfl (Sub.cons rfl (Sub.cons rfl (Sub.cons rfl (Sub.cons rfl (Sub.cons rfl (Sub.nil _)))))))))) ?_
      refine TC.region ?_
      refine TL.val rfl rfl (Nat.le_of_ble_eq_true rfl) (Val.move rfl) ?_
      refine TL.val rfl rfl (Nat.le_of_ble_eq_true rfl) (Val.loadAgg 6 rfl ag61 sz61 rfl rfl rfl) ?_
      refine TL.val rfl rfl (Nat.le_of_ble_eq_true rfl) (Val.move rfl) ?_
      refine TL.val rfl rfl (Nat.le_of_ble_eq_true rfl) (Val.loadAgg 5 rfl ag73 sz73 rfl rfl rfl) ?_
      refine TL.val rfl rfl (Nat.le_of_ble_eq_true rfl) (Val.move rfl) ?_
      refine TL.val rfl rfl (Nat.le_of_ble_eq_true rfl) (Val.move rfl) ?_
      refine TL.does (some 32) rfl rfl rfl (Does.callF go63 rfl (check_two gb rb lb nb cn ob co sn so c N asked ref ones nws ols _ hN h1 h2 h3 hgr has k x hx hxb hxs kind gen sq ep va me hgen hk2 now hc p p2 hp hp2 (ip + 4) top bits rr htop hrep ⟨by omega, by omega⟩ ⟨by omega, by omega⟩ hnow (putM ⟨kind, (k : Nat), gen, sq, ep, va, me⟩) _ 32 cc2 (rd_all (i := 2) rfl) (by simp) (by simp) ⟨((get8 tl 0 : Nat) : Int), ((get8 tl 8 : Nat) : Int)⟩ hk2n)) ?_
      rintro _ _ ⟨rfl, rfl⟩
      refine TL.val rfl rfl (Nat.le_of_ble_eq_true rfl) (Val.assign rfl) ?_
      refine TL.nil ?_
      refine AtX.then ?_
      refine TC.env (E' := [(0, _), (8, _), (9, _), (10, _), (13, _)]) (Sub.cons rfl (Sub.cons rfl (Sub.cons rfl (Sub.cons rfl (Sub.cons rfl (Sub.nil _)))))) ?_
      refine TC.seq ?_
      refine TC.seq ?_
      refine TC.region ?_
      refine TL.val rfl rfl (Nat.le_of_ble_eq_true rfl) (Val.move rfl) ?_
      refine TL.val rfl rfl (Nat.le_of_ble_eq_true rfl) (Val.neqI rfl rfl) ?_
      refine TL.nil ?_
      refine AtX.then ?_
      refine TC.env (E' := [(0, _), (8, _), (9, _), (10, _), (13, _), (34, _)]) (Sub.cons rfl (Sub.cons rfl (Sub.cons rfl (Sub.cons rfl (Sub.cons rfl (Sub.cons rfl (Sub.nil _))))))) ?_
      first | refine TC.condP rfl (fun c3 => ?_) (fun c3 => ?_) | refine TC.condN rfl (fun c3 => ?_) (fun c3 => ?_) | refine TC.condB rfl (fun c3 => ?_) (fun c3 => ?_) | refine TC.cond rfl (fun c3 => ?_) (fun c3 => ?_)
      · skip
        refine TC.env (E' := [(0, _), (8, _), (9, _), (10, _), (13, _)]) (Sub.cons rfl (Sub.cons rfl (Sub.cons rfl (Sub.cons rfl (Sub.cons rfl (Sub.nil _)))))) ?_
        refine TC.seq ?_
        refine TC.region ?_
        refine TL.val rfl rfl (Nat.le_of_ble_eq_true rfl) (Val.move rfl) ?_
        refine TL.val rfl rfl (Nat.le_of_ble_eq_true rfl) (Val.nilCheck rfl) ?_
        refine TL.val rfl rfl (Nat.le_of_ble_eq_true rfl) (Val.fieldAddr rfl fl117_4 sz92 rfl) ?_
        refine TL.does (some 38) rfl rfl rfl (Does.callF go52 rfl (aAdd_fn gb 29 0 _ _ ref 1 (ref + 1) _ rfl rfl (w_i64 (by omega) (by omega)))) ?_
        rintro _ _ ⟨rfl, rfl⟩
        refine TL.nil ?_
        refine AtX.then ?_
        refine TC.env (E' := [(8, _), (9, _), (10, _), (13, _)]) (Sub.cons rfl (Sub.cons rfl (Sub.cons rfl (Sub.cons rfl (Sub.nil _))))) ?_
        refine TC.seq ?_
        refine TC.region ?_
        refine TL.val rfl rfl (Nat.le_of_ble_eq_true rfl) (Val.buildS pl61 ze61 rfl rfl) ?_
        refine TL.val rfl rfl (Nat.le_of_ble_eq_true rfl) (Val.move rfl) ?_
        refine TL.does none rfl rfl rfl (Does.store (i := 8) rfl rfl rfl sz61 rfl rfl (by first | exact Nat.le_of_ble_eq_true rfl | decide | omega) rfl rfl) ?_
        rintro _ _ ⟨rfl, rfl⟩
        refine TL.val rfl rfl (Nat.le_of_ble_eq_true rfl) (Val.assign rfl) ?_
        refine TL.nil ?_
        refine AtX.then ?_
        refine TC.env (E' := [(8, _), (9, _), (10, _)]) (Sub.cons rfl (Sub.cons rfl (Sub.cons rfl (Sub.nil _)))) ?_
        refine TC.ret2 (fn := Try.f32) (fun _ _ h => h) rfl (RV.agg (i := 8) rfl ag61 sz61 rfl rfl rfl) (RV.tmp rfl) (M' := (gateO gb c rb (some ⟨nb, 0, none⟩) N cn (some ⟨ob, 0, none⟩) N co (ref + 1) :: ringO rb c.seed lb N c.grace asked :: (lb, row 161 (ones.flatMap On.cs)) :: (nb, row 118 (nws.map pp ++ sn)) :: (ob, row 118 (ols.map pp ++ so)) :: T)) (fun w h => (ro_mv (A := [_, _, _, _, _]) (L := [_, _, _, _]) w h).drop.drop.drop.drop) ?_
        exact ⟨rfl, rfl⟩
      · skip
        (exfalso; simp at c3)
    · skip
      exact absurd rfl c2

end Go.Proofs.Ytphoapajlcaoeaa
/- walks -/
set_option linter.unusedVariables false
set_option linter.unusedSimpArgs false
set_option maxRecDepth 100000
set_option maxHeartbeats 4000000
namespace Go.Proofs.Ytphoapajlcaoeaa
open Go Go.X
/-- (*quorumite/verify.Gate).Take -/
theorem Take_s (gb rb lb nb cn ob co : Nat) (sn so : List Value) (c : Cf) (N : Nat) (asked ref : Int) (ones : List On) (nws ols : List Nat) (T : Hp) (hN : c.n = N) (h1 : ones.length = N) (h2 : nws.length = N) (h3 : ols.length = N) (hgr : 1 ≤ c.grace ∧ c.grace ≤ 100) (has : 0 ≤ asked ∧ asked ≤ 90000) (k : Nat) (x : On) (hx : ones[k]? = some x) (hxb : 0 ≤ x.gen ∧ x.gen ≤ 60000) (hxs : 0 ≤ x.since ∧ x.since ≤ 1099511627776) (kind gen sq ep va me : Int) (hgen : -1000000 ≤ gen ∧ gen ≤ 1000000) (hk2 : kind = 2 → gen - 1 = x.gen) (now : Int) (hc : OkC c) (p p2 : Nat) (hp : nws[k]? = some p) (hp2 : ols[k]? = some p2) (ip : Nat) (top bits rr : Int) (htop : 0 ≤ top ∧ top ≤ 1000000) (hrep : T[ip]? = some (repO (if sgen kind gen = x.gen then p else p2) c.window top bits rr)) (hnow : 0 ≤ now ∧ now ≤ 1099511627776) (hm : mayM ⟨kind, (k : Nat), gen, sq, ep, va, me⟩ = true) (hok : okK x (sgen kind gen) now c.grace = true) (hk1 : kind ≠ 2) (hsq : sq = top + 1) (hmay : mayP c.window top bits sq = true) : FnC Try.prog 33 #[.pointer (some ⟨gb, 0, none⟩), .agg #[.int .i64 kind, .int .i64 ((k : Nat) : Int), .int .i64 gen, .int .i64 sq, .int .i64 ep, .int .i64 va, .int .i64 me], .int .i64 now] (gateO gb c rb (some ⟨nb, 0, none⟩) N cn (some ⟨ob, 0, none⟩) N co ref :: ringO rb c.seed lb N c.grace asked :: (lb, row 161 (ones.flatMap On.cs)) :: (nb, row 118 (nws.map pp ++ sn)) :: (ob, row 118 (ols.map pp ++ so)) :: T) (fun v M' => v = .int .i64 0 ∧ M' = (gateO gb c rb (some ⟨nb, 0, none⟩) N cn (some ⟨ob, 0, none⟩) N co ref :: ringO rb c.seed lb N c.grace (asked + 1) :: (lb, row 161 (ones.flatMap On.cs)) :: (nb, row 118 (nws.map pp ++ sn)) :: (ob, row 118 (ols.map pp ++ so)) :: (T.set ip (repO (if sgen kind gen = x.gen then p else p2) c.window (top + 1) (nextB c.window bits) rr)))) := by
  have hkN : k < N := by rw [← h1]; exact (List.getElem?_eq_some_iff.1 hx).1
  have hwin := hc.window
  have hmi := mayM_iff.1 hm
  simp only at hmi
  refine FnC.intro Try.func33 rfl 91 rfl (by simp) (fun z => ?_)
  refine TC.env (E' := [(0, _), (1, _), (2, _)]) (Sub.cons rfl (Sub.cons rfl (Sub.cons rfl (Sub.nil _)))) ?_
  refine TC.seq ?_
  refine TC.region ?_
  refine TL.does (some 4) rfl rfl rfl (Does.box rfl rfl) ?_
  rintro _ _ ⟨b1, rfl, rfl⟩
  refine TL.val rfl rfl (Nat.le_of_ble_eq_true rfl) (Val.assign rfl) ?_
  refine TL.nil ?_
  refine AtX.then ?_
  refine TC.env (E' := [(0, _), (2, _), (4, _), (6, _)]) (Sub.cons rfl (Sub.cons rfl (Sub.cons rfl (Sub.cons rfl (Sub.nil _))))) ?_
  refine TC.seq ?_
  refine TC.block ?_
  refine TC.seq ?_
  refine TC.heap (M' := (gateO gb c rb (some ⟨nb, 0, none⟩) N cn (some ⟨ob, 0, none⟩) N co ref :: ringO rb c.seed lb N c.grace asked :: (lb, row 161 (ones.flatMap On.cs)) :: (nb, row 118 (nws.map pp ++ sn)) :: (ob, row 118 (ols.map pp ++ so)) :: ((b1, .cells #[.int .i64 kind, .int .i64 ((k : Nat) : Int), .int .i64 gen, .int .i64 sq, .int .i64 ep, .int .i64 va, .int .i64 me] 61 (0, 0)) :: T))) (fun w h => ro_mv (A := [_]) (L := [_, _, _, _, _]) w h) ?_
  refine TC.region ?_
  refine TL.val rfl rfl (Nat.le_of_ble_eq_true rfl) (Val.move rfl) ?_
  refine TL.val rfl rfl (Nat.le_of_ble_eq_true rfl) (Val.eqlNil rfl rfl pt55) ?_
  refine TL.val rfl rfl (Nat.le_of_ble_eq_true rfl) (Val.move rfl) ?_
  refine TL.valYes rfl rfl (Nat.le_of_ble_eq_true rfl) rfl (Nat.le_of_ble_eq_true rfl) rfl (Val.loadAgg 5 rfl ag61 sz61 rfl rfl rfl) ?_
  refine TL.doesYes (some 15) rfl rfl rfl (Nat.le_of_ble_eq_true rfl) rfl rfl (Does.callF go47 rfl (May_true ⟨kind, (k : Nat), gen, sq, ep, va, me⟩ _ hm)) ?_
  rintro _ _ ⟨rfl, rfl⟩
  refine TL.valYes rfl rfl (Nat.le_of_ble_eq_true rfl) rfl (Nat.le_of_ble_eq_true rfl) rfl (Val.not rfl) ?_
  refine TL.val rfl rfl (Nat.le_of_ble_eq_true rfl) (Val.pickOr rfl rfl rfl) ?_
  refine TL.val rfl rfl (Nat.le_of_ble_eq_true rfl) (Val.move rfl) ?_
  refine TL.valYes rfl rfl (Nat.le_of_ble_eq_true rfl) rfl (Nat.le_of_ble_eq_true rfl) rfl (Val.move rfl) ?_
  refine TL.valYes rfl rfl (Nat.le_of_ble_eq_true rfl) rfl (Nat.le_of_ble_eq_true rfl) rfl (Val.same (v' := .bool false) (Val.lss rfl rfl) (congrArg Value.bool (decide_eq_false (by omega)))) ?_
  refine TL.val rfl rfl (Nat.le_of_ble_eq_true rfl) (Val.pickOr rfl rfl rfl) ?_
  refine TL.val rfl rfl (Nat.le_of_ble_eq_true rfl) (Val.move rfl) ?_
  refine TL.valYes rfl rfl (Nat.le_of_ble_eq_true rfl) rfl (Nat.le_of_ble_eq_true rfl) rfl (Val.move rfl) ?_
  refine TL.valYes rfl rfl (Nat.le_of_ble_eq_true rfl) rfl (Nat.le_of_ble_eq_true rfl) rfl (Val.same (v' := .bool false) (Val.gtr rfl rfl) (congrArg Value.bool (decide_eq_false (by omega)))) ?_
  refine TL.val rfl rfl (Nat.le_of_ble_eq_true rfl) (Val.pickOr rfl rfl rfl) ?_
  refine TL.val rfl rfl (Nat.le_of_ble_eq_true rfl) (Val.assign rfl) ?_
  refine TL.nil ?_
  refine AtX.then ?_
  refine TC.env (E' := [(0, _), (2, _), (4, _), (6, _), (10, _)]) (Sub.cons rfl (Sub.cons rfl (Sub.cons rfl (Sub.cons rfl (Sub.cons rfl (Sub.nil _)))))) ?_
  first | refine TC.condP rfl (fun c1 => ?_) (fun c1 => ?_) | refine TC.condN rfl (fun c1 => ?_) (fun c1 => ?_) | refine TC.condB rfl (fun c1 => ?_) (fun c1 => ?_) | refine TC.cond rfl (fun c1 => ?_) (fun c1 => ?_)
  · skip
    (exfalso; simp at c1)
  · skip
    refine TC.env (E' := [(0, _), (2, _), (4, _), (6, _)]) (Sub.cons rfl (Sub.cons rfl (Sub.cons rfl (Sub.cons rfl (Sub.nil _))))) ?_
    refine TC.seq ?_
    refine TC.drawLM mixed 9 ?_
    refine TA.tk 0 1 rfl rfl rfl (Val.fieldAddr rfl fl61_1 sz3 rfl) ?_
    refine TA.tk 1 3 rfl rfl rfl (Val.load 5 rfl ag3 rfl rfl) ?_
    refine TA.tk 2 7 rfl rfl rfl (Val.move rfl) ?_
    refine TA.tk 3 15 rfl rfl rfl (Val.nilCheck rfl) ?_
    refine TA.tk 4 31 rfl rfl rfl (Val.fieldAddr rfl fl117_0 sz26 rfl) ?_
    refine TA.tk 5 63 rfl rfl rfl (Val.fieldAddr rfl fl26_0 sz3 rfl) ?_
    refine TA.tk 6 127 rfl rfl rfl (Val.load 0 rfl ag3 rfl rfl) ?_
    refine TA.tk 7 255 rfl rfl rfl (Val.geq rfl rfl) ?_
    refine TA.tk 8 511 rfl rfl rfl (Val.assign rfl) ?_
    refine TA.done (by kernel_rfl) ?_
    refine AtX.then ?_
    refine TC.env (E' := [(0, _), (2, _), (4, _), (6, _), (26, _)]) (Sub.cons rfl (Sub.cons rfl (Sub.cons rfl (Sub.cons rfl (Sub.cons rfl (Sub.nil _)))))) ?_
    first | refine TC.condP rfl (fun c2 => ?_) (fun c2 => ?_) | refine TC.condN rfl (fun c2 => ?_) (fun c2 => ?_) | refine TC.condB rfl (fun c2 => ?_) (fun c2 => ?_) | refine TC.cond rfl (fun c2 => ?_) (fun c2 => ?_)
    · skip
      (exfalso; grind)
    · skip
      refine TC.env (E' := [(0, _), (2, _), (4, _), (6, _)]) (Sub.cons rfl (Sub.cons rfl (Sub.cons rfl (Sub.cons rfl (Sub.nil _))))) ?_
      refine TC.skip ?_
      refine AtX.blk ?_
      refine AtX.then ?_
      refine TC.env (E' := [(0, _), (2, _), (4, _), (6, _)]) (Sub.cons rfl (Sub.cons rfl (Sub.cons rfl (Sub.cons rfl (Sub.nil _))))) ?_
      refine TC.seq ?_
      refine TC.seq ?_
      refine TC.region ?_
      refine TL.val rfl rfl (Nat.le_of_ble_eq_true rfl) (Val.move rfl) ?_
      refine TL.val rfl rfl (Nat.le_of_ble_eq_true rfl) (Val.loadAgg 5 rfl ag61 sz61 rfl rfl rfl) ?_
      refine TL.val rfl rfl (Nat.le_of_ble_eq_true rfl) (Val.move rfl) ?_
      refine TL.does (some 39) rfl rfl rfl (Does.callF go64 rfl (gKey_fn gb rb lb nb cn ob co sn so c N asked ref ones nws ols _ hN h1 h2 h3 hgr ⟨has.1, by omega⟩ k x hx hxb hxs kind gen sq ep va me hgen hk2 now)) ?_
      rintro _ _ ⟨rfl, rfl⟩
      rw [if_pos hok, if_pos hok]
      refine TL.val rfl rfl (Nat.le_of_ble_eq_true rfl) (Val.move rfl) ?_
      refine TL.val rfl rfl (Nat.le_of_ble_eq_true rfl) (Val.extract rfl rfl) ?_
      refine TL.val rfl rfl (Nat.le_of_ble_eq_true rfl) (Val.extract rfl rfl) ?_
      refine TL.does (some 7) rfl rfl rfl (Does.alloc ze69 rfl) ?_
      rintro _ _ ⟨b7, rfl, rfl⟩
      refine TL.does none rfl rfl rfl (Does.store (i := 0) rfl rfl rfl sz69 rfl rfl (by first | exact Nat.le_of_ble_eq_true rfl | decide | omega) rfl rfl) ?_
      rintro _ _ ⟨rfl, rfl⟩
      refine TL.val rfl rfl (Nat.le_of_ble_eq_true rfl) (Val.assign rfl) ?_
      refine TL.nil ?_
      refine AtX.then ?_
      refine TC.env (E' := [(0, _), (2, _), (4, _), (6, _), (8, _)]) (Sub.cons rfl (Sub.cons rfl (Sub.cons rfl (Sub.cons rfl (Sub.cons rfl (Sub.nil _)))))) ?_
      refine TC.seq ?_
      refine TC.heap (M' := (gateO gb c rb (some ⟨nb, 0, none⟩) N cn (some ⟨ob, 0, none⟩) N co ref :: ringO rb c.seed lb N c.grace (asked + 1) :: (lb, row 161 (ones.flatMap On.cs)) :: (nb, row 118 (nws.map pp ++ sn)) :: (ob, row 118 (ols.map pp ++ so)) :: ((b7, .cells #[.int .u64 (macKey c.seed (k : Nat) (sgen kind gen)).a, .int .u64 (macKey c.seed (k : Nat) (sgen kind gen)).b] 69 (0, 0)) :: (b1, .cells #[.int .i64 kind, .int .i64 ((k : Nat) : Int), .int .i64 gen, .int .i64 sq, .int .i64 ep, .int .i64 va, .int .i64 me] 61 (0, 0)) :: T))) (fun w h => ro_mv (A := [_]) (L := [_, _, _, _, _]) w h) ?_
      refine TC.region ?_
      refine TL.val rfl rfl (Nat.le_of_ble_eq_true rfl) (Val.move rfl) ?_
      refine TL.val rfl rfl (Nat.le_of_ble_eq_true rfl) (Val.neqI rfl rfl) ?_
      refine TL.nil ?_
      refine AtX.then ?_
      refine TC.env (E' := [(0, _), (2, _), (4, _), (6, _), (8, _), (43, _)]) (Sub.cons rfl (Sub.cons rfl (Sub.cons rfl (Sub.cons rfl (Sub.cons rfl (Sub.cons rfl (Sub.nil _))))))) ?_
      first | refine TC.condP rfl (fun c3 => ?_) (fun c3 => ?_) | refine TC.condN rfl (fun c3 => ?_) (fun c3 => ?_) | refine TC.condB rfl (fun c3 => ?_) (fun c3 => ?_) | refine TC.cond rfl (fun c3 => ?_) (fun c3 => ?_)
      · skip
        exact absurd rfl c3
      · skip
        refine TC.env (E' := [(0, _), (2, _), (4, _), (6, _)]) (Sub.cons rfl (Sub.cons rfl (Sub.cons rfl (Sub.cons rfl (Sub.nil _))))) ?_
        refine TC.skip ?_
        refine AtX.then ?_
        refine TC.env (E' := [(0, _), (2, _), (4, _), (6, _)]) (Sub.cons rfl (Sub.cons rfl (Sub.cons rfl (Sub.cons rfl (Sub.nil _))))) ?_
        refine TC.seq ?_
        refine TC.region ?_
        refine TL.val rfl rfl (Nat.le_of_ble_eq_true rfl) (Val.move rfl) ?_
        refine TL.val rfl rfl (Nat.le_of_ble_eq_true rfl) (Val.loadAgg 6 rfl ag61 sz61 rfl rfl rfl) ?_
        refine TL.does (some 47) rfl rfl rfl (Does.callF go65 rfl (gSel_fn gb rb lb nb cn ob co sn so c N (asked + 1) ref ones nws ols _ hN h1 h2 h3 hgr ⟨by omega, by omega⟩ k x hx hxb hxs kind gen sq ep va me hgen hk2 p p2 hp hp2)) ?_
        rintro _ _ ⟨rfl, rfl⟩
        refine TL.val rfl rfl (Nat.le_of_ble_eq_true rfl) (Val.assign rfl) ?_
        refine TL.nil ?_
        refine AtX.then ?_
        refine TC.env (E' := [(0, _), (2, _), (4, _), (6, _), (9, _)]) (Sub.cons rfl (Sub.cons rfl (Sub.cons rfl (Sub.cons rfl (Sub.cons rfl (Sub.nil _)))))) ?_
        refine TC.seq ?_
        refine TC.seq ?_
        refine TC.region ?_
        refine TL.val rfl rfl (Nat.le_of_ble_eq_true rfl) (Val.move rfl) ?_
        refine TL.val rfl rfl (Nat.le_of_ble_eq_true rfl) (Val.fieldAddr rfl fl61_3 sz2 rfl) ?_
        refine TL.val rfl rfl (Nat.le_of_ble_eq_true rfl) (Val.load 6 rfl ag2 rfl rfl) ?_
        refine TL.does (some 51) rfl rfl rfl (Does.callF go66 rfl (pMay_fn (if sgen kind gen = x.gen then p else p2) (ip + 7) c.window top bits rr _ hrep hwin ⟨by omega, by omega⟩ sq ⟨by omega, by omega⟩)) ?_
        rintro _ _ ⟨rfl, rfl⟩
        rw [hmay]
        refine TL.val rfl rfl (Nat.le_of_ble_eq_true rfl) (Val.not rfl) ?_
        refine TL.nil ?_
        refine AtX.then ?_
        refine TC.env (E' := [(0, _), (2, _), (4, _), (6, _), (9, _), (52, _)]) (Sub.cons rfl (Sub.cons rfl (Sub.cons rfl (Sub.cons rfl (Sub.cons rfl (Sub.cons rfl (Sub.nil _))))))) ?_
        first | refine TC.condP rfl (fun c4 => ?_) (fun c4 => ?_) | refine TC.condN rfl (fun c4 => ?_) (fun c4 => ?_) | refine TC.condB rfl (fun c4 => ?_) (fun c4 => ?_) | refine TC.cond rfl (fun c4 => ?_) (fun c4 => ?_)
        · skip
          cases c4
        · skip
          refine TC.env (E' := [(0, _), (2, _), (4, _), (6, _), (9, _)]) (Sub.cons rfl (Sub.cons rfl (Sub.cons rfl (Sub.cons rfl (Sub.cons rfl (Sub.nil _)))))) ?_
          refine TC.skip ?_
          refine AtX.then ?_
          refine TC.env (E' := [(0, _), (2, _), (4, _), (6, _), (9, _)]) (Sub.cons rfl (Sub.cons rfl (Sub.cons rfl (Sub.cons rfl (Sub.cons rfl (Sub.nil _)))))) ?_
          refine TC.seq ?_
          refine TC.seq ?_
          refine TC.region ?_
          refine TL.val rfl rfl (Nat.le_of_ble_eq_true rfl) (Val.fieldAddr rfl fl61_0 sz3 rfl) ?_
          refine TL.val rfl rfl (Nat.le_of_ble_eq_true rfl) (Val.load 6 rfl ag3 rfl rfl) ?_
          refine TL.val rfl rfl (Nat.le_of_ble_eq_true rfl) (Val.eqlI rfl rfl) ?_
          refine TL.nil ?_
          refine AtX.then ?_
          refine TC.env (E' := [(0, _), (2, _), (4, _), (6, _), (9, _), (55, _)]) (Sub.cons rfl (Sub.cons rfl (Sub.cons rfl (Sub.cons rfl (Sub.cons rfl (Sub.cons rfl (Sub.nil _))))))) ?_
          first | refine TC.condP rfl (fun c5 => ?_) (fun c5 => ?_) | refine TC.condN rfl (fun c5 => ?_) (fun c5 => ?_) | refine TC.condB rfl (fun c5 => ?_) (fun c5 => ?_) | refine TC.cond rfl (fun c5 => ?_) (fun c5 => ?_)
          · skip
            (exfalso; omega)
          · skip
            refine TC.env (E' := [(4, _), (6, _), (9, _)]) (Sub.cons rfl (Sub.cons rfl (Sub.cons rfl (Sub.nil _)))) ?_
            refine TC.skip ?_
            refine AtX.then ?_
            refine TC.env (E' := [(4, _), (6, _), (9, _)]) (Sub.cons rfl (Sub.cons rfl (Sub.cons rfl (Sub.nil _)))) ?_
            refine TC.seq ?_
            refine TC.region ?_
            refine TL.val rfl rfl (Nat.le_of_ble_eq_true rfl) (Val.move rfl) ?_
            refine TL.val rfl rfl (Nat.le_of_ble_eq_true rfl) (Val.fieldAddr rfl fl61_3 sz2 rfl) ?_
            refine TL.val rfl rfl (Nat.le_of_ble_eq_true rfl) (Val.load 6 rfl ag2 rfl rfl) ?_
            refine TL.does (some 90) rfl rfl rfl (Does.callF go68 rfl (FnC.at0 (ip + 7) hrep (by rw [hsq]; exact pTake_next (if sgen kind gen = x.gen then p else p2) c.window top bits rr _ hwin ⟨by omega, by omega⟩ (hsq ▸ hmay)))) ?_
            rintro _ _ ⟨rfl, rfl⟩
            refine TL.val rfl rfl (Nat.le_of_ble_eq_true rfl) (Val.assign rfl) ?_
            refine TL.nil ?_
            refine AtX.then ?_
            refine TC.env (E' := [(6, _)]) (Sub.cons rfl (Sub.nil _)) ?_
            refine TC.ret1 (fn := Try.f33) (fun _ _ h => h) rfl (RV.tmp rfl) (M' := (gateO gb c rb (some ⟨nb, 0, none⟩) N cn (some ⟨ob, 0, none⟩) N co ref :: ringO rb c.seed lb N c.grace (asked + 1) :: (lb, row 161 (ones.flatMap On.cs)) :: (nb, row 118 (nws.map pp ++ sn)) :: (ob, row 118 (ols.map pp ++ so)) :: (T.set ip (repO (if sgen kind gen = x.gen then p else p2) c.window (top + 1) (nextB c.window bits) rr)))) (fun w h => (ro_mv (A := [_, _, _, _, _]) (L := [_, _]) w h).drop.drop) ?_
            exact ⟨rfl, rfl⟩

/-- (*quorumite/verify.Gate).Take -/
theorem Take_no (gb rb lb nb cn ob co : Nat) (sn so : List Value) (c : Cf) (N : Nat) (asked ref : Int) (ones : List On) (nws ols : List Nat) (T : Hp) (hN : c.n = N) (h1 : ones.length = N) (h2 : nws.length = N) (h3 : ols.length = N) (hgr : 1 ≤ c.grace ∧ c.grace ≤ 100) (has : 0 ≤ asked ∧ asked ≤ 90000) (k : Nat) (x : On) (hx : ones[k]? = some x) (hxb : 0 ≤ x.gen ∧ x.gen ≤ 60000) (hxs : 0 ≤ x.since ∧ x.since ≤ 1099511627776) (kind gen sq ep va me : Int) (hgen : -1000000 ≤ gen ∧ gen ≤ 1000000) (hk2 : kind = 2 → gen - 1 = x.gen) (now : Int) (hc : OkC c) (p p2 : Nat) (hp : nws[k]? = some p) (hp2 : ols[k]? = some p2) (ip : Nat) (top bits rr : Int) (htop : 0 ≤ top ∧ top ≤ 1000000) (hrep : T[ip]? = some (repO (if sgen kind gen = x.gen then p else p2) c.window top bits rr)) (hnow : 0 ≤ now ∧ now ≤ 1099511627776) (hm : mayM ⟨kind, (k : Nat), gen, sq, ep, va, me⟩ = true) (hok : okK x (sgen kind gen) now c.grace = true) (hmay : mayP c.window top bits sq = false) : FnC Try.prog 33 #[.pointer (some ⟨gb, 0, none⟩), .agg #[.int .i64 kind, .int .i64 ((k : Nat) : Int), .int .i64 gen, .int .i64 sq, .int .i64 ep, .int .i64 va, .int .i64 me], .int .i64 now] (gateO gb c rb (some ⟨nb, 0, none⟩) N cn (some ⟨ob, 0, none⟩) N co ref :: ringO rb c.seed lb N c.grace asked :: (lb, row 161 (ones.flatMap On.cs)) :: (nb, row 118 (nws.map pp ++ sn)) :: (ob, row 118 (ols.map pp ++ so)) :: T) (fun v M' => v = .int .i64 6 ∧ M' = (gateO gb c rb (some ⟨nb, 0, none⟩) N cn (some ⟨ob, 0, none⟩) N co ref :: ringO rb c.seed lb N c.grace (asked + 1) :: (lb, row 161 (ones.flatMap On.cs)) :: (nb, row 118 (nws.map pp ++ sn)) :: (ob, row 118 (ols.map pp ++ so)) :: T)) := by
  have hkN : k < N := by rw [← h1]; exact (List.getElem?_eq_some_iff.1 hx).1
  have hwin := hc.window
  have hmi := mayM_iff.1 hm
  simp only at hmi
  refine FnC.intro Try.func33 rfl 91 rfl (by simp) (fun z => ?_)
  refine TC.env (E' := [(0, _), (1, _), (2, _)]) (Sub.cons rfl (Sub.cons rfl (Sub.cons rfl (Sub.nil _)))) ?_
  refine TC.seq ?_
  refine TC.region ?_
  refine TL.does (some 4) rfl rfl rfl (Does.box rfl rfl) ?_
  rintro _ _ ⟨b1, rfl, rfl⟩
  refine TL.val rfl rfl (Nat.le_of_ble_eq_true rfl) (Val.assign rfl) ?_
  refine TL.nil ?_
  refine AtX.then ?_
  refine TC.env (E' := [(0, _), (2, _), (4, _), (6, _)]) (Sub.cons rfl (Sub.cons rfl (Sub.cons rfl (Sub.cons rfl (Sub.nil _))))) ?_
  refine TC.seq ?_
  refine TC.block ?_
  refine TC.seq ?_
  refine TC.heap (M' := (gateO gb c rb (some ⟨nb, 0, none⟩) N cn (some ⟨ob, 0, none⟩) N co ref :: ringO rb c.seed lb N c.grace asked :: (lb, row 161 (ones.flatMap On.cs)) :: (nb, row 118 (nws.map pp ++ sn)) :: (ob, row 118 (ols.map pp ++ so)) :: ((b1, .cells #[.int .i64 kind, .int .i64 ((k : Nat) : Int), .int .i64 gen, .int .i64 sq, .int .i64 ep, .int .i64 va, .int .i64 me] 61 (0, 0)) :: T))) (fun w h => ro_mv (A := [_]) (L := [_, _, _, _, _]) w h) ?_
  refine TC.region ?_
  refine TL.val rfl rfl (Nat.le_of_ble_eq_true rfl) (Val.move rfl) ?_
  refine TL.val rfl rfl (Nat.le_of_ble_eq_true rfl) (Val.eqlNil rfl rfl pt55) ?_
  refine TL.val rfl rfl (Nat.le_of_ble_eq_true rfl) (Val.move rfl) ?_
  refine TL.valYes rfl rfl (Nat.le_of_ble_eq_true rfl) rfl (Nat.le_of_ble_eq_true rfl) rfl (Val.loadAgg 5 rfl ag61 sz61 rfl rfl rfl) ?_
  refine TL.doesYes (some 15) rfl rfl rfl (Nat.le_of_ble_eq_true rfl) rfl rfl (Does.callF go47 rfl (May_true ⟨kind, (k : Nat), gen, sq, ep, va, me⟩ _ hm)) ?_
  rintro _ _ ⟨rfl, rfl⟩
  refine TL.valYes rfl rfl (Nat.le_of_ble_eq_true rfl) rfl (Nat.le_of_ble_eq_true rfl) rfl (Val.not rfl) ?_
  refine TL.val rfl rfl (Nat.le_of_ble_eq_true rfl) (Val.pickOr rfl rfl rfl) ?_
  refine TL.val rfl rfl (Nat.le_of_ble_eq_true rfl) (Val.move rfl) ?_
  refine TL.valYes rfl rfl (Nat.le_of_ble_eq_true rfl) rfl (Nat.le_of_ble_eq_true rfl) rfl (Val.move rfl) ?_
  refine TL.valYes rfl rfl (Nat.le_of_ble_eq_true rfl) rfl (Nat.le_of_ble_eq_true rfl) rfl (Val.same (v' := .bool false) (Val.lss rfl rfl) (congrArg Value.bool (decide_eq_false (by omega)))) ?_
  refine TL.val rfl rfl (Nat.le_of_ble_eq_true rfl) (Val.pickOr rfl rfl rfl) ?_
  refine TL.val rfl rfl (Nat.le_of_ble_eq_true rfl) (Val.move rfl) ?_
  refine TL.valYes rfl rfl (Nat.le_of_ble_eq_true rfl) rfl (Nat.le_of_ble_eq_true rfl) rfl (Val.move rfl) ?_
  refine TL.valYes rfl rfl (Nat.le_of_ble_eq_true rfl) rfl (Nat.le_of_ble_eq_true rfl) rfl (Val.same (v' := .bool false) (Val.gtr rfl rfl) (congrArg Value.bool (decide_eq_false (by omega)))) ?_
  refine TL.val rfl rfl (Nat.le_of_ble_eq_true rfl) (Val.pickOr rfl rfl rfl) ?_
  refine TL.val rfl rfl (Nat.le_of_ble_eq_true rfl) (Val.assign rfl) ?_
  refine TL.nil ?_
  refine AtX.then ?_
  refine TC.env (E' := [(0, _), (2, _), (4, _), (6, _), (10, _)]) (Sub.cons rfl (Sub.cons rfl (Sub.cons rfl (Sub.cons rfl (Sub.cons rfl (Sub.nil _)))))) ?_
  first | refine TC.condP rfl (fun c1 => ?_) (fun c1 => ?_) | refine TC.condN rfl (fun c1 => ?_) (fun c1 => ?_) | refine TC.condB rfl (fun c1 => ?_) (fun c1 => ?_) | refine TC.cond rfl (fun c1 => ?_) (fun c1 => ?_)
  · skip
    (exfalso; simp at c1)
  · skip
    refine TC.env (E' := [(0, _), (2, _), (4, _), (6, _)]) (Sub.cons rfl (Sub.cons rfl (Sub.cons rfl (Sub.cons rfl (Sub.nil _))))) ?_
    refine TC.seq ?_
    refine TC.drawLM mixed 9 ?_
    refine TA.tk 0 1 rfl rfl rfl (Val.fieldAddr rfl fl61_1 sz3 rfl) ?_
    refine TA.tk 1 3 rfl rfl rfl (Val.load 5 rfl ag3 rfl rfl) ?_
    refine TA.tk 2 7 rfl rfl rfl (Val.move rfl) ?_
    refine TA.tk 3 15 rfl rfl rfl (Val.nilCheck rfl) ?_
    refine TA.tk 4 31 rfl rfl rfl (Val.fieldAddr rfl fl117_0 sz26 rfl) ?_
    refine TA.tk 5 63 rfl rfl rfl (Val.fieldAddr rfl fl26_0 sz3 rfl) ?_
    refine TA.tk 6 127 rfl rfl rfl (Val.load 0 rfl ag3 rfl rfl) ?_
    refine TA.tk 7 255 rfl rfl rfl (Val.geq rfl rfl) ?_
    refine TA.tk 8 511 rfl rfl rfl (Val.assign rfl) ?_
    refine TA.done (by kernel_rfl) ?_
    refine AtX.then ?_
    refine TC.env (E' := [(0, _), (2, _), (4, _), (6, _), (26, _)]) (Sub.cons rfl (Sub.cons rfl (Sub.cons rfl (Sub.cons rfl (Sub.cons rfl (Sub.nil _)))))) ?_
    first | refine TC.condP rfl (fun c2 => ?_) (fun c2 => ?_) | refine TC.condN rfl (fun c2 => ?_) (fun c2 => ?_) | refine TC.condB rfl (fun c2 => ?_) (fun c2 => ?_) | refine TC.cond rfl (fun c2 => ?_) (fun c2 => ?_)
    · skip
      (exfalso; grind)
    · skip
      refine TC.env (E' := [(0, _), (2, _), (4, _), (6, _)]) (Sub.cons rfl (Sub.cons rfl (Sub.cons rfl (Sub.cons rfl (Sub.nil _))))) ?_
      refine TC.skip ?_
      refine AtX.blk ?_
      refine AtX.then ?_
      refine TC.env (E' := [(0, _), (2, _), (4, _), (6, _)]) (Sub.cons rfl (Sub.cons rfl (Sub.cons rfl (Sub.cons rfl (Sub.nil _))))) ?_
      refine TC.seq ?_
      refine TC.seq ?_
      refine TC.region ?_
      refine TL.val rfl rfl (Nat.le_of_ble_eq_true rfl) (Val.move rfl) ?_
      refine TL.val rfl rfl (Nat.le_of_ble_eq_true rfl) (Val.loadAgg 5 rfl ag61 sz61 rfl rfl rfl) ?_
      refine TL.val rfl rfl (Nat.le_of_ble_eq_true rfl) (Val.move rfl) ?_
      refine TL.does (some 39) rfl rfl rfl (Does.callF go64 rfl (gKey_fn gb rb lb nb cn ob co sn so c N asked ref ones nws ols _ hN h1 h2 h3 hgr ⟨has.1, by omega⟩ k x hx hxb hxs kind gen sq ep va me hgen hk2 now)) ?_
      rintro _ _ ⟨rfl, rfl⟩
      rw [if_pos hok, if_pos hok]
      refine TL.val rfl rfl (Nat.le_of_ble_eq_true rfl) (Val.move rfl) ?_
      refine TL.val rfl rfl (Nat.le_of_ble_eq_true rfl) (Val.extract rfl rfl) ?_
      refine TL.val rfl rfl (Nat.le_of_ble_eq_true rfl) (Val.extract rfl rfl) ?_
      refine TL.does (some 7) rfl rfl rfl (Does.alloc ze69 rfl) ?_
      rintro _ _ ⟨b7, rfl, rfl⟩
      refine TL.does none rfl rfl rfl (Does.store (i := 0) rfl rfl rfl sz69 rfl rfl (by first | exact Nat.le_of_ble_eq_true rfl | decide | omega) rfl rfl) ?_
      rintro _ _ ⟨rfl, rfl⟩
      refine TL.val rfl rfl (Nat.le_of_ble_eq_true rfl) (Val.assign rfl) ?_
      refine TL.nil ?_
      refine AtX.then ?_
      refine TC.env (E' := [(0, _), (2, _), (4, _), (6, _), (8, _)]) (Sub.cons rfl (Sub.cons rfl (Sub.cons rfl (Sub.cons rfl (Sub.cons rfl (Sub.nil _)))))) ?_
      refine TC.seq ?_
      refine TC.heap (M' := (gateO gb c rb (some ⟨nb, 0, none⟩) N cn (some ⟨ob, 0, none⟩) N co ref :: ringO rb c.seed lb N c.grace (asked + 1) :: (lb, row 161 (ones.flatMap On.cs)) :: (nb, row 118 (nws.map pp ++ sn)) :: (ob, row 118 (ols.map pp ++ so)) :: ((b7, .cells #[.int .u64 (macKey c.seed (k : Nat) (sgen kind gen)).a, .int .u64 (macKey c.seed (k : Nat) (sgen kind gen)).b] 69 (0, 0)) :: (b1, .cells #[.int .i64 kind, .int .i64 ((k : Nat) : Int), .int .i64 gen, .int .i64 sq, .int .i64 ep, .int .i64 va, .int .i64 me] 61 (0, 0)) :: T))) (fun w h => ro_mv (A := [_]) (L := [_, _, _, _, _]) w h) ?_
      refine TC.region ?_
      refine TL.val rfl rfl (Nat.le_of_ble_eq_true rfl) (Val.move rfl) ?_
      refine TL.val rfl rfl (Nat.le_of_ble_eq_true rfl) (Val.neqI rfl rfl) ?_
      refine TL.nil ?_
      refine AtX.then ?_
      refine TC.env (E' := [(0, _), (2, _), (4, _), (6, _), (8, _), (43, _)]) (Sub.cons rfl (Sub.cons rfl (Sub.cons rfl (Sub.cons rfl (Sub.cons rfl (Sub.cons rfl (Sub.nil _))))))) ?_
      first | refine TC.condP rfl (fun c3 => ?_) (fun c3 => ?_) | refine TC.condN rfl (fun c3 => ?_) (fun c3 => ?_) | refine TC.condB rfl (fun c3 => ?_) (fun c3 => ?_) | refine TC.cond rfl (fun c3 => ?_) (fun c3 => ?_)
      · skip
        exact absurd rfl c3
      · skip
        refine TC.env (E' := [(0, _), (2, _), (4, _), (6, _)]) (Sub.cons rfl (Sub.cons rfl (Sub.cons rfl (Sub.cons rfl (Sub.nil _))))) ?_
        refine TC.skip ?_
        refine AtX.then ?_
        refine TC.env (E' := [(0, _), (2, _), (4, _), (6, _)]) (Sub.cons rfl (Sub.cons rfl (Sub.cons rfl (Sub.cons rfl (Sub.nil _))))) ?_
        refine TC.seq ?_
        refine TC.region ?_
        refine TL.val rfl rfl (Nat.le_of_ble_eq_true rfl) (Val.move rfl) ?_
        refine TL.val rfl rfl (Nat.le_of_ble_eq_true rfl) (Val.loadAgg 6 rfl ag61 sz61 rfl rfl rfl) ?_
        refine TL.does (some 47) rfl rfl rfl (Does.callF go65 rfl (gSel_fn gb rb lb nb cn ob co sn so c N (asked + 1) ref ones nws ols _ hN h1 h2 h3 hgr ⟨by omega, by omega⟩ k x hx hxb hxs kind gen sq ep va me hgen hk2 p p2 hp hp2)) ?_
        rintro _ _ ⟨rfl, rfl⟩
        refine TL.val rfl rfl (Nat.le_of_ble_eq_true rfl) (Val.assign rfl) ?_
        refine TL.nil ?_
        refine AtX.then ?_
        refine TC.env (E' := [(0, _), (2, _), (4, _), (6, _), (9, _)]) (Sub.cons rfl (Sub.cons rfl (Sub.cons rfl (Sub.cons rfl (Sub.cons rfl (Sub.nil _)))))) ?_
        refine TC.seq ?_
        refine TC.seq ?_
        refine TC.region ?_
        refine TL.val rfl rfl (Nat.le_of_ble_eq_true rfl) (Val.move rfl) ?_
        refine TL.val rfl rfl (Nat.le_of_ble_eq_true rfl) (Val.fieldAddr rfl fl61_3 sz2 rfl) ?_
        refine TL.val rfl rfl (Nat.le_of_ble_eq_true rfl) (Val.load 6 rfl ag2 rfl rfl) ?_
        refine TL.does (some 51) rfl rfl rfl (Does.callF go66 rfl (pMay_fn (if sgen kind gen = x.gen then p else p2) (ip + 7) c.window top bits rr _ hrep hwin ⟨by omega, by omega⟩ sq ⟨by omega, by omega⟩)) ?_
        rintro _ _ ⟨rfl, rfl⟩
        rw [hmay]
        refine TL.val rfl rfl (Nat.le_of_ble_eq_true rfl) (Val.not rfl) ?_
        refine TL.nil ?_
        refine AtX.then ?_
        refine TC.env (E' := [(0, _), (2, _), (4, _), (6, _), (9, _), (52, _)]) (Sub.cons rfl (Sub.cons rfl (Sub.cons rfl (Sub.cons rfl (Sub.cons rfl (Sub.cons rfl (Sub.nil _))))))) ?_
        first | refine TC.condP rfl (fun c4 => ?_) (fun c4 => ?_) | refine TC.condN rfl (fun c4 => ?_) (fun c4 => ?_) | refine TC.condB rfl (fun c4 => ?_) (fun c4 => ?_) | refine TC.cond rfl (fun c4 => ?_) (fun c4 => ?_)
        · skip
          refine TC.env (E' := [(0, _), (2, _), (4, _), (6, _), (9, _)]) (Sub.cons rfl (Sub.cons rfl (Sub.cons rfl (Sub.cons rfl (Sub.cons rfl (Sub.nil _)))))) ?_
          refine TC.seq ?_
          refine TC.region ?_
          refine TL.val rfl rfl (Nat.le_of_ble_eq_true rfl) (Val.assign rfl) ?_
          refine TL.nil ?_
          refine AtX.then ?_
          refine TC.env (E' := [(0, _), (2, _), (4, _), (6, _), (9, _)]) (Sub.cons rfl (Sub.cons rfl (Sub.cons rfl (Sub.cons rfl (Sub.cons rfl (Sub.nil _)))))) ?_
          refine TC.ret1 (fn := Try.f33) (fun _ _ h => h) rfl (RV.tmp rfl) (M' := (gateO gb c rb (some ⟨nb, 0, none⟩) N cn (some ⟨ob, 0, none⟩) N co ref :: ringO rb c.seed lb N c.grace (asked + 1) :: (lb, row 161 (ones.flatMap On.cs)) :: (nb, row 118 (nws.map pp ++ sn)) :: (ob, row 118 (ols.map pp ++ so)) :: T)) (fun w h => (ro_mv (A := [_, _, _, _, _]) (L := [_, _]) w h).drop.drop) ?_
          exact ⟨rfl, rfl⟩
        · skip
          cases c4

end Go.Proofs.Ytphoapajlcaoeaa
/- walks -/
set_option linter.unusedVariables false
set_option linter.unusedSimpArgs false
set_option maxRecDepth 100000
set_option maxHeartbeats 4000000
namespace Go.Proofs.Ytphoapajlcaoeaa
open Go Go.X
/-- (*quorumite/verify.Gate).Take -/
theorem Take_r (gb rb lb nb cn ob co : Nat) (sn so : List Value) (c : Cf) (N : Nat) (asked ref : Int) (ones : List On) (nws ols : List Nat) (T : Hp) (hN : c.n = N) (h1 : ones.length = N) (h2 : nws.length = N) (h3 : ols.length = N) (hgr : 1 ≤ c.grace ∧ c.grace ≤ 100) (has : 0 ≤ asked ∧ asked ≤ 90000) (k : Nat) (x : On) (hx : ones[k]? = some x) (hxb : 0 ≤ x.gen ∧ x.gen ≤ 60000) (hxs : 0 ≤ x.since ∧ x.since ≤ 1099511627776) (kind gen sq ep va me : Int) (hgen : -1000000 ≤ gen ∧ gen ≤ 1000000) (hk2 : kind = 2 → gen - 1 = x.gen) (now : Int) (hc : OkC c) (p p2 : Nat) (hp : nws[k]? = some p) (hp2 : ols[k]? = some p2) (ip : Nat) (top bits rr : Int) (htop : 0 ≤ top ∧ top ≤ 1000000) (hrep : T[ip]? = some (repO (if sgen kind gen = x.gen then p else p2) c.window top bits rr)) (hnow : 0 ≤ now ∧ now ≤ 1099511627776) (hm : mayM ⟨kind, (k : Nat), gen, sq, ep, va, me⟩ = true) (hok : okK x (sgen kind gen) now c.grace = true) (hk1 : kind = 2) (hsq : sq = top + 1) (hmay : mayP c.window top bits sq = true) : FnC Try.prog 33 #[.pointer (some ⟨gb, 0, none⟩), .agg #[.int .i64 kind, .int .i64 ((k : Nat) : Int), .int .i64 gen, .int .i64 sq, .int .i64 ep, .int .i64 va, .int .i64 me], .int .i64 now] (gateO gb c rb (some ⟨nb, 0, none⟩) N cn (some ⟨ob, 0, none⟩) N co ref :: ringO rb c.seed lb N c.grace asked :: (lb, row 161 (ones.flatMap On.cs)) :: (nb, row 118 (nws.map pp ++ sn)) :: (ob, row 118 (ols.map pp ++ so)) :: T) (fun v M' => ∃ pn : Nat, v = .int .i64 0 ∧ M' = (gateO gb c rb (some ⟨nb, 0, none⟩) N cn (some ⟨ob, 0, none⟩) N co ref :: ringO rb c.seed lb N c.grace (asked + 1) :: (lb, row 161 ((ones.set k ⟨gen, now⟩).flatMap On.cs)) :: (nb, row 118 ((nws.set k pn).map pp ++ sn)) :: (ob, row 118 ((ols.set k p).map pp ++ so)) :: (repO pn c.window 0 0 0 :: T.set ip (repO p c.window (top + 1) (nextB c.window bits) rr)))) := by
  have hkN : k < N := by rw [← h1]; exact (List.getElem?_eq_some_iff.1 hx).1
  have hwin := hc.window
  have hmi := mayM_iff.1 hm
  simp only at hmi
  have hsx : sgen kind gen = x.gen := by unfold sgen; rw [if_pos hk1]; exact hk2 hk1
  rw [if_pos hsx] at hrep
  have hkn : k < nws.length := by omega
  have hko : k < ols.length := by omega
  refine FnC.intro Try.func33 rfl 91 rfl (by simp) (fun z => ?_)
  refine TC.env (E' := [(0, _), (1, _), (2, _)]) (Sub.cons rfl (Sub.cons rfl (Sub.cons rfl (Sub.nil _)))) ?_
  refine TC.seq ?_
  refine TC.region ?_
  refine TL.does (some 4) rfl rfl rfl (Does.box rfl rfl) ?_
  rintro _ _ ⟨b1, rfl, rfl⟩
  refine TL.val rfl rfl (Nat.le_of_ble_eq_true rfl) (Val.assign rfl) ?_
  refine TL.nil ?_
  refine AtX.then ?_
  refine TC.env (E' := [(0, _), (2, _), (4, _), (6, _)]) (Sub.cons rfl (Sub.cons rfl (Sub.cons rfl (Sub.cons rfl (Sub.nil _))))) ?_
  refine TC.seq ?_
  refine TC.block ?_
  refine TC.seq ?_
  refine TC.heap (M' := (gateO gb c rb (some ⟨nb, 0, none⟩) N cn (some ⟨ob, 0, none⟩) N co ref :: ringO rb c.seed lb N c.grace asked :: (lb, row 161 (ones.flatMap On.cs)) :: (nb, row 118 (nws.map pp ++ sn)) :: (ob, row 118 (ols.map pp ++ so)) :: ((b1, .cells #[.int .i64 kind, .int .i64 ((k : Nat) : Int), .int .i64 gen, .int .i64 sq, .int .i64 ep, .int .i64 va, .int .i64 me] 61 (0, 0)) :: T))) (fun w h => ro_mv (A := [_]) (L := [_, _, _, _, _]) w h) ?_
  refine TC.region ?_
  refine TL.val rfl rfl (Nat.le_of_ble_eq_true rfl) (Val.move rfl) ?_
  refine TL.val rfl rfl (Nat.le_of_ble_eq_true rfl) (Val.eqlNil rfl rfl pt55) ?_
  refine TL.val rfl rfl (Nat.le_of_ble_eq_true rfl) (Val.move rfl) ?_
  refine TL.valYes rfl rfl (Nat.le_of_ble_eq_true rfl) rfl (Nat.le_of_ble_eq_true rfl) rfl (Val.loadAgg 5 rfl ag61 sz61 rfl rfl rfl) ?_
  refine TL.doesYes (some 15) rfl rfl rfl (Nat.le_of_ble_eq_true rfl) rfl rfl (Does.callF go47 rfl (May_true ⟨kind, (k : Nat), gen, sq, ep, va, me⟩ _ hm)) ?_
  rintro _ _ ⟨rfl, rfl⟩
  refine TL.valYes rfl rfl (Nat.le_of_ble_eq_true rfl) rfl (Nat.le_of_ble_eq_true rfl) rfl (Val.not rfl) ?_
  refine TL.val rfl rfl (Nat.le_of_ble_eq_true rfl) (Val.pickOr rfl rfl rfl) ?_
  refine TL.val rfl rfl (Nat.le_of_ble_eq_true rfl) (Val.move rfl) ?_
  refine TL.valYes rfl rfl (Nat.le_of_ble_eq_true rfl) rfl (Nat.le_of_ble_eq_true rfl) rfl (Val.move rfl) ?_
  refine TL.valYes rfl rfl (Nat.le_of_ble_eq_true rfl) rfl (Nat.le_of_ble_eq_true rfl) rfl (Val.same (v' := .bool false) (Val.lss rfl rfl) (congrArg Value.bool (decide_eq_false (by omega)))) ?_
  refine TL.val rfl rfl (Nat.le_of_ble_eq_true rfl) (Val.pickOr rfl rfl rfl) ?_
  refine TL.val rfl rfl (Nat.le_of_ble_eq_true rfl) (Val.move rfl) ?_
  refine TL.valYes rfl rfl (Nat.le_of_ble_eq_true rfl) rfl (Nat.le_of_ble_eq_true rfl) rfl (Val.move rfl) ?_
  refine TL.valYes rfl rfl (Nat.le_of_ble_eq_true rfl) rfl (Nat.le_of_ble_eq_true rfl) rfl (Val.same (v' := .bool false) (Val.gtr rfl rfl) (congrArg Value.bool (decide_eq_false (by omega)))) ?_
  refine TL.val rfl rfl (Nat.le_of_ble_eq_true rfl) (Val.pickOr rfl rfl rfl) ?_
  refine TL.val rfl rfl (Nat.le_of_ble_eq_true rfl) (Val.assign rfl) ?_
  refine TL.nil ?_
  refine AtX.then ?_
  refine TC.env (E' := [(0, _), (2, _), (4, _), (6, _), (10, _)]) (Sub.cons rfl (Sub.cons rfl (Sub.cons rfl (Sub.cons rfl (Sub.cons rfl (Sub.nil _)))))) ?_
  first | refine TC.condP rfl (fun c1 => ?_) (fun c1 => ?_) | refine TC.condN rfl (fun c1 => ?_) (fun c1 => ?_) | refine TC.condB rfl (fun c1 => ?_) (fun c1 => ?_) | refine TC.cond rfl (fun c1 => ?_) (fun c1 => ?_)
  · skip
    (exfalso; simp at c1)
  · skip
    refine TC.env (E' := [(0, _), (2, _), (4, _), (6, _)]) (Sub.cons rfl (Sub.cons rfl (Sub.cons rfl (Sub.cons rfl (Sub.nil _))))) ?_
    refine TC.seq ?_
    refine TC.drawLM mixed 9 ?_
    refine TA.tk 0 1 rfl rfl rfl (Val.fieldAddr rfl fl61_1 sz3 rfl) ?_
    refine TA.tk 1 3 rfl rfl rfl (Val.load 5 rfl ag3 rfl rfl) ?_
    refine TA.tk 2 7 rfl rfl rfl (Val.move rfl) ?_
    refine TA.tk 3 15 rfl rfl rfl (Val.nilCheck rfl) ?_
    refine TA.tk 4 31 rfl rfl rfl (Val.fieldAddr rfl fl117_0 sz26 rfl) ?_
    refine TA.tk 5 63 rfl rfl rfl (Val.fieldAddr rfl fl26_0 sz3 rfl) ?_
    refine TA.tk 6 127 rfl rfl rfl (Val.load 0 rfl ag3 rfl rfl) ?_
    refine TA.tk 7 255 rfl rfl rfl (Val.geq rfl rfl) ?_
    refine TA.tk 8 511 rfl rfl rfl (Val.assign rfl) ?_
    refine TA.done (by kernel_rfl) ?_
    refine AtX.then ?_
    refine TC.env (E' := [(0, _), (2, _), (4, _), (6, _), (26, _)]) (Sub.cons rfl (Sub.cons rfl (Sub.cons rfl (Sub.cons rfl (Sub.cons rfl (Sub.nil _)))))) ?_
    first | refine TC.condP rfl (fun c2 => ?_) (fun c2 => ?_) | refine TC.condN rfl (fun c2 => ?_) (fun c2 => ?_) | refine TC.condB rfl (fun c2 => ?_) (fun c2 => ?_) | refine TC.cond rfl (fun c2 => ?_) (fun c2 => ?_)
    · skip
      (exfalso; grind)
    · skip
      refine TC.env (E' := [(0, _), (2, _), (4, _), (6, _)]) (Sub.cons rfl (Sub.cons rfl (Sub.cons rfl (Sub.cons rfl (Sub.nil _))))) ?_
      refine TC.skip ?_
      refine AtX.blk ?_
      refine AtX.then ?_
      refine TC.env (E' := [(0, _), (2, _), (4, _), (6, _)]) (Sub.cons rfl (Sub.cons rfl (Sub.cons rfl (Sub.cons rfl (Sub.nil _))))) ?_
      refine TC.seq ?_
      refine TC.seq ?_
      refine TC.region ?_
      refine TL.val rfl rfl (Nat.le_of_ble_eq_true rfl) (Val.move rfl) ?_
      refine TL.val rfl rfl (Nat.le_of_ble_eq_true rfl) (Val.loadAgg 5 rfl ag61 sz61 rfl rfl rfl) ?_
      refine TL.val rfl rfl (Nat.le_of_ble_eq_true rfl) (Val.move rfl) ?_
      refine TL.does (some 39) rfl rfl rfl (Does.callF go64 rfl (gKey_fn gb rb lb nb cn ob co sn so c N asked ref ones nws ols _ hN h1 h2 h3 hgr ⟨has.1, by omega⟩ k x hx hxb hxs kind gen sq ep va me hgen hk2 now)) ?_
      rintro _ _ ⟨rfl, rfl⟩
      rw [if_pos hok, if_pos hok]
      refine TL.val rfl rfl (Nat.le_of_ble_eq_true rfl) (Val.move rfl) ?_
      refine TL.val rfl rfl (Nat.le_of_ble_eq_true rfl) (Val.extract rfl rfl) ?_
      refine TL.val rfl rfl (Nat.le_of_ble_eq_true rfl) (Val.extract rfl rfl) ?_
      refine TL.does (some 7) rfl rfl rfl (Does.alloc ze69 rfl) ?_
      rintro _ _ ⟨b7, rfl, rfl⟩
      refine TL.does none rfl rfl rfl (Does.store (i := 0) rfl rfl rfl sz69 rfl rfl (by first | exact Nat.le_of_ble_eq_true rfl | decide | omega) rfl rfl) ?_
      rintro _ _ ⟨rfl, rfl⟩
      refine TL.val rfl rfl (Nat.le_of_ble_eq_true rfl) (Val.assign rfl) ?_
      refine TL.nil ?_
      refine AtX.then ?_
      refine TC.env (E' := [(0, _), (2, _), (4, _), (6, _), (8, _)]) (Sub.cons rfl (Sub.cons rfl (Sub.cons rfl (Sub.cons rfl (Sub.cons rfl (Sub.nil _)))))) ?_
      refine TC.seq ?_
      refine TC.heap (M' := (gateO gb c rb (some ⟨nb, 0, none⟩) N cn (some ⟨ob, 0, none⟩) N co ref :: ringO rb c.seed lb N c.grace (asked + 1) :: (lb, row 161 (ones.flatMap On.cs)) :: (nb, row 118 (nws.map pp ++ sn)) :: (ob, row 118 (ols.map pp ++ so)) :: ((b7, .cells #[.int .u64 (macKey c.seed (k : Nat) (sgen kind gen)).a, .int .u64 (macKey c.seed (k : Nat) (sgen kind gen)).b] 69 (0, 0)) :: (b1, .cells #[.int .i64 kind, .int .i64 ((k : Nat) : Int), .int .i64 gen, .int .i64 sq, .int .i64 ep, .int .i64 va, .int .i64 me] 61 (0, 0)) :: T))) (fun w h => ro_mv (A := [_]) (L := [_, _, _, _, _]) w h) ?_
      refine TC.region ?_
      refine TL.val rfl rfl (Nat.le_of_ble_eq_true rfl) (Val.move rfl) ?_
      refine TL.val rfl rfl (Nat.le_of_ble_eq_true rfl) (Val.neqI rfl rfl) ?_
      refine TL.nil ?_
      refine AtX.then ?_
      refine TC.env (E' := [(0, _), (2, _), (4, _), (6, _), (8, _), (43, _)]) (Sub.cons rfl (Sub.cons rfl (Sub.cons rfl (Sub.cons rfl (Sub.cons rfl (Sub.cons rfl (Sub.nil _))))))) ?_
      first | refine TC.condP rfl (fun c3 => ?_) (fun c3 => ?_) | refine TC.condN rfl (fun c3 => ?_) (fun c3 => ?_) | refine TC.condB rfl (fun c3 => ?_) (fun c3 => ?_) | refine TC.cond rfl (fun c3 => ?_) (fun c3 => ?_)
      · skip
        exact absurd rfl c3
      · skip
        refine TC.env (E' := [(0, _), (2, _), (4, _), (6, _)]) (Sub.cons rfl (Sub.cons rfl (Sub.cons rfl (Sub.cons rfl (Sub.nil _))))) ?_
        refine TC.skip ?_
        refine AtX.then ?_
        refine TC.env (E' := [(0, _), (2, _), (4, _), (6, _)]) (Sub.cons rfl (Sub.cons rfl (Sub.cons rfl (Sub.cons rfl (Sub.nil _))))) ?_
        refine TC.seq ?_
        refine TC.region ?_
        refine TL.val rfl rfl (Nat.le_of_ble_eq_true rfl) (Val.move rfl) ?_
        refine TL.val rfl rfl (Nat.le_of_ble_eq_true rfl) (Val.loadAgg 6 rfl ag61 sz61 rfl rfl rfl) ?_
        refine TL.does (some 47) rfl rfl rfl (Does.callF go65 rfl (gSel_fn gb rb lb nb cn ob co sn so c N (asked + 1) ref ones nws ols _ hN h1 h2 h3 hgr ⟨by omega, by omega⟩ k x hx hxb hxs kind gen sq ep va me hgen hk2 p p2 hp hp2)) ?_
        rintro _ _ ⟨rfl, rfl⟩
        rw [if_pos hsx]
        refine TL.val rfl rfl (Nat.le_of_ble_eq_true rfl) (Val.assign rfl) ?_
        refine TL.nil ?_
        refine AtX.then ?_
        refine TC.env (E' := [(0, _), (2, _), (4, _), (6, _), (9, _)]) (Sub.cons rfl (Sub.cons rfl (Sub.cons rfl (Sub.cons rfl (Sub.cons rfl (Sub.nil _)))))) ?_
        refine TC.seq ?_
        refine TC.seq ?_
        refine TC.region ?_
        refine TL.val rfl rfl (Nat.le_of_ble_eq_true rfl) (Val.move rfl) ?_
        refine TL.val rfl rfl (Nat.le_of_ble_eq_true rfl) (Val.fieldAddr rfl fl61_3 sz2 rfl) ?_
        refine TL.val rfl rfl (Nat.le_of_ble_eq_true rfl) (Val.load 6 rfl ag2 rfl rfl) ?_
        refine TL.does (some 51) rfl rfl rfl (Does.callF go66 rfl (pMay_fn p (ip + 7) c.window top bits rr _ hrep hwin ⟨by omega, by omega⟩ sq ⟨by omega, by omega⟩)) ?_
        rintro _ _ ⟨rfl, rfl⟩
        rw [hmay]
        refine TL.val rfl rfl (Nat.le_of_ble_eq_true rfl) (Val.not rfl) ?_
        refine TL.nil ?_
        refine AtX.then ?_
        refine TC.env (E' := [(0, _), (2, _), (4, _), (6, _), (9, _), (52, _)]) (Sub.cons rfl (Sub.cons rfl (Sub.cons rfl (Sub.cons rfl (Sub.cons rfl (Sub.cons rfl (Sub.nil _))))))) ?_
        first | refine TC.condP rfl (fun c4 => ?_) (fun c4 => ?_) | refine TC.condN rfl (fun c4 => ?_) (fun c4 => ?_) | refine TC.condB rfl (fun c4 => ?_) (fun c4 => ?_) | refine TC.cond rfl (fun c4 => ?_) (fun c4 => ?_)
        · skip
          cases c4
        · skip
          refine TC.env (E' := [(0, _), (2, _), (4, _), (6, _), (9, _)]) (Sub.cons rfl (Sub.cons rfl (Sub.cons rfl (Sub.cons rfl (Sub.cons rfl (Sub.nil _)))))) ?_
          refine TC.skip ?_
          refine AtX.then ?_
          refine TC.env (E' := [(0, _), (2, _), (4, _), (6, _), (9, _)]) (Sub.cons rfl (Sub.cons rfl (Sub.cons rfl (Sub.cons rfl (Sub.cons rfl (Sub.nil _)))))) ?_
          refine TC.seq ?_
          refine TC.seq ?_
          refine TC.region ?_
          refine TL.val rfl rfl (Nat.le_of_ble_eq_true rfl) (Val.fieldAddr rfl fl61_0 sz3 rfl) ?_
          refine TL.val rfl rfl (Nat.le_of_ble_eq_true rfl) (Val.load 6 rfl ag3 rfl rfl) ?_
          refine TL.val rfl rfl (Nat.le_of_ble_eq_true rfl) (Val.eqlI rfl rfl) ?_
          refine TL.nil ?_
          refine AtX.then ?_
          refine TC.env (E' := [(0, _), (2, _), (4, _), (6, _), (9, _), (55, _)]) (Sub.cons rfl (Sub.cons rfl (Sub.cons rfl (Sub.cons rfl (Sub.cons rfl (Sub.cons rfl (Sub.nil _))))))) ?_
          first | refine TC.condP rfl (fun c5 => ?_) (fun c5 => ?_) | refine TC.condN rfl (fun c5 => ?_) (fun c5 => ?_) | refine TC.condB rfl (fun c5 => ?_) (fun c5 => ?_) | refine TC.cond rfl (fun c5 => ?_) (fun c5 => ?_)
          · skip
            refine TC.env (E' := [(0, _), (2, _), (4, _), (6, _), (9, _)]) (Sub.cons rfl (Sub.cons rfl (Sub.cons rfl (Sub.cons rfl (Sub.cons rfl (Sub.nil _)))))) ?_
            refine TC.seq ?_
            refine TC.drawL [gateO gb c rb (some ⟨nb, 0, none⟩) N cn (some ⟨ob, 0, none⟩) N co ref, (b1, .cells #[.int .i64 kind, .int .i64 ((k : Nat) : Int), .int .i64 gen, .int .i64 sq, .int .i64 ep, .int .i64 va, .int .i64 me] 61 (0, 0))] mixed 10 ?_
            refine TA.tk 0 1 rfl rfl rfl (Val.move rfl) ?_ (hro := (by repeat (first | exact Go.X.ro_gb | refine Go.X.ro_tail ?_)))
            refine TA.tk 1 3 rfl rfl rfl (Val.nilCheck rfl) ?_ (hro := (by repeat (first | exact Go.X.ro_gb | refine Go.X.ro_tail ?_)))
            refine TA.tk 2 7 rfl rfl rfl (Val.fieldAddr rfl fl117_1 sz113 rfl) ?_ (hro := (by repeat (first | exact Go.X.ro_gb | refine Go.X.ro_tail ?_)))
            refine TA.tk 3 15 rfl rfl rfl (Val.load 0 rfl ag113 rfl rfl) ?_ (hro := (by repeat (first | exact Go.X.ro_gb | refine Go.X.ro_tail ?_)))
            refine TA.tk 4 31 rfl rfl rfl (Val.fieldAddr rfl fl61_1 sz3 rfl) ?_ (hro := (by repeat (first | exact Go.X.ro_gb | refine Go.X.ro_tail ?_)))
            refine TA.tk 5 63 rfl rfl rfl (Val.load 1 rfl ag3 rfl rfl) ?_ (hro := (by repeat (first | exact Go.X.ro_gb | refine Go.X.ro_tail ?_)))
            refine TA.tk 6 127 rfl rfl rfl (Val.fieldAddr rfl fl61_2 sz3 rfl) ?_ (hro := (by repeat (first | exact Go.X.ro_gb | refine Go.X.ro_tail ?_)))
            refine TA.tk 7 255 rfl rfl rfl (Val.load 1 rfl ag3 rfl rfl) ?_ (hro := (by repeat (first | exact Go.X.ro_gb | refine Go.X.ro_tail ?_)))
            refine TA.tk 8 511 rfl rfl rfl (Val.move rfl) ?_ (hro := (by repeat (first | exact Go.X.ro_gb | refine Go.X.ro_tail ?_)))
            refine TA.one 9 (by kernel_rfl) ?_
            refine TO.dz 1023 (some 65) rfl rfl rfl rfl (Does.callF go67 rfl (rRotate_fn rb lb 1 c.seed N c.grace (asked + 1) _ rfl 2 ones rfl h1.symm k x hx gen now ⟨by have := hk2 hk1; omega, by omega, by omega⟩ hnow)) ?_
            rintro _ _ ⟨rfl, rfl⟩
            refine ⟨(by repeat (first | exact Go.X.ro_gb | refine Go.X.ro_tail ?_)), ?_⟩
            refine TA.done (by kernel_rfl) ?_
            refine AtX.then ?_
            refine TC.env (E' := [(0, _), (4, _), (6, _), (9, _)]) (Sub.cons rfl (Sub.cons rfl (Sub.cons rfl (Sub.cons rfl (Sub.nil _))))) ?_
            refine TC.drawL [gateO gb c rb (some ⟨nb, 0, none⟩) N cn (some ⟨ob, 0, none⟩) N co ref, (b1, .cells #[.int .i64 kind, .int .i64 ((k : Nat) : Int), .int .i64 gen, .int .i64 sq, .int .i64 ep, .int .i64 va, .int .i64 me] 61 (0, 0))] mixed 23 ?_
            refine TA.tk 0 1 rfl rfl rfl (Val.move rfl) ?_ (hro := (by repeat (first | exact Go.X.ro_gb | refine Go.X.ro_tail ?_)))
            refine TA.tk 1 3 rfl rfl rfl (Val.nilCheck rfl) ?_ (hro := (by repeat (first | exact Go.X.ro_gb | refine Go.X.ro_tail ?_)))
            refine TA.tk 2 7 rfl rfl rfl (Val.fieldAddr rfl fl117_3 sz115 rfl) ?_ (hro := (by repeat (first | exact Go.X.ro_gb | refine Go.X.ro_tail ?_)))
            refine TA.tk 3 15 rfl rfl rfl (Val.load 0 rfl ag115 rfl rfl) ?_ (hro := (by repeat (first | exact Go.X.ro_gb | refine Go.X.ro_tail ?_)))
            refine TA.tk 4 31 rfl rfl rfl (Val.fieldAddr rfl fl61_1 sz3 rfl) ?_ (hro := (by repeat (first | exact Go.X.ro_gb | refine Go.X.ro_tail ?_)))
            refine TA.tk 5 63 rfl rfl rfl (Val.load 1 rfl ag3 rfl rfl) ?_ (hro := (by repeat (first | exact Go.X.ro_gb | refine Go.X.ro_tail ?_)))
            refine TA.tk 6 127 rfl rfl rfl (Val.move rfl) ?_ (hro := (by repeat (first | exact Go.X.ro_gb | refine Go.X.ro_tail ?_)))
            refine TA.tk 7 255 rfl rfl rfl (Val.nilCheck rfl) ?_ (hro := (by repeat (first | exact Go.X.ro_gb | refine Go.X.ro_tail ?_)))
            refine TA.tk 8 511 rfl rfl rfl (Val.fieldAddr rfl fl117_2 sz115 rfl) ?_ (hro := (by repeat (first | exact Go.X.ro_gb | refine Go.X.ro_tail ?_)))
            refine TA.tk 9 1023 rfl rfl rfl (Val.load 0 rfl ag115 rfl rfl) ?_ (hro := (by repeat (first | exact Go.X.ro_gb | refine Go.X.ro_tail ?_)))
            refine TA.tk 10 2047 rfl rfl rfl (Val.fieldAddr rfl fl61_1 sz3 rfl) ?_ (hro := (by repeat (first | exact Go.X.ro_gb | refine Go.X.ro_tail ?_)))
            refine TA.tk 11 4095 rfl rfl rfl (Val.load 1 rfl ag3 rfl rfl) ?_ (hro := (by repeat (first | exact Go.X.ro_gb | refine Go.X.ro_tail ?_)))
            refine TA.tk 12 8191 rfl rfl rfl (Val.move rfl) ?_ (hro := (by repeat (first | exact Go.X.ro_gb | refine Go.X.ro_tail ?_)))
            refine TA.tk 13 16383 rfl rfl rfl (Val.move rfl) ?_ (hro := (by repeat (first | exact Go.X.ro_gb | refine Go.X.ro_tail ?_)))
            refine TA.tk 14 32767 rfl rfl rfl (Val.nilCheck rfl) ?_ (hro := (by repeat (first | exact Go.X.ro_gb | refine Go.X.ro_tail ?_)))
            refine TA.tk 15 65535 rfl rfl rfl (Val.fieldAddr rfl fl117_0 sz26 rfl) ?_ (hro := (by repeat (first | exact Go.X.ro_gb | refine Go.X.ro_tail ?_)))
            refine TA.tk 16 131071 rfl rfl rfl (Val.fieldAddr rfl fl26_6 sz3 rfl) ?_ (hro := (by repeat (first | exact Go.X.ro_gb | refine Go.X.ro_tail ?_)))
            refine TA.tk 17 262143 rfl rfl rfl (Val.load 0 rfl ag3 rfl rfl) ?_ (hro := (by repeat (first | exact Go.X.ro_gb | refine Go.X.ro_tail ?_)))
            refine TA.one 18 (by kernel_rfl) ?_
            refine TO.dz 524287 (some 84) rfl rfl rfl rfl (Does.callF go61 rfl (pNew_fn c.window _ hwin)) ?_
            rintro _ _ ⟨pn, rfl, rfl⟩
            refine ⟨(by repeat (first | exact Go.X.ro_gb | refine Go.X.ro_tail ?_)), ?_⟩
            refine TA.tk 19 1048575 rfl rfl rfl (Val.indexAddr (i := k) (r := k) rfl rfl sl115 sz118 rfl (by omega) (by omega)) ?_ (hro := (by repeat (first | exact Go.X.ro_gb | refine Go.X.ro_tail ?_)))
            refine TA.one 20 (by kernel_rfl) ?_
            refine TO.dz 2097151 none rfl rfl rfl rfl (Does.storeR 5 rfl rfl rfl sz118 rfl rfl (by simp; omega) (row_set (f := pp) hko p)) ?_
            rintro _ _ ⟨rfl, rfl⟩
            refine ⟨(by repeat (first | exact Go.X.ro_gb | refine Go.X.ro_tail ?_)), ?_⟩
            refine TA.tk 21 4194303 rfl rfl rfl (Val.indexAddr (i := k) (r := k) rfl rfl sl115 sz118 rfl (by omega) (by omega)) ?_ (hro := (by repeat (first | exact Go.X.ro_gb | refine Go.X.ro_tail ?_)))
            refine TA.one 22 (by kernel_rfl) ?_
            refine TO.dz 8388607 none rfl rfl rfl rfl (Does.storeR 4 rfl rfl rfl sz118 rfl rfl (by simp; omega) (row_set (f := pp) hkn pn)) ?_
            rintro _ _ ⟨rfl, rfl⟩
            refine ⟨(by repeat (first | exact Go.X.ro_gb | refine Go.X.ro_tail ?_)), ?_⟩
            refine TA.done (by kernel_rfl) ?_
            refine AtX.then ?_
            refine TC.env (E' := [(4, _), (6, _), (9, _)]) (Sub.cons rfl (Sub.cons rfl (Sub.cons rfl (Sub.nil _)))) ?_
            refine TC.seq ?_
            refine TC.region ?_
            refine TL.val rfl rfl (Nat.le_of_ble_eq_true rfl) (Val.move rfl) ?_
            refine TL.val rfl rfl (Nat.le_of_ble_eq_true rfl) (Val.fieldAddr rfl fl61_3 sz2 rfl) ?_
            refine TL.val rfl rfl (Nat.le_of_ble_eq_true rfl) (Val.load 7 rfl ag2 rfl rfl) ?_
            refine TL.does (some 90) rfl rfl rfl (Does.callF go68 rfl (FnC.at0 (ip + 8) hrep (by rw [hsq]; exact pTake_next p c.window top bits rr _ hwin ⟨by omega, by omega⟩ (hsq ▸ hmay)))) ?_
            rintro _ _ ⟨rfl, rfl⟩
            refine TL.val rfl rfl (Nat.le_of_ble_eq_true rfl) (Val.assign rfl) ?_
            refine TL.nil ?_
            refine AtX.then ?_
            refine TC.env (E' := [(6, _)]) (Sub.cons rfl (Sub.nil _)) ?_
            refine TC.ret1 (fn := Try.f33) (fun _ _ h => h) rfl (RV.tmp rfl) (M' := (gateO gb c rb (some ⟨nb, 0, none⟩) N cn (some ⟨ob, 0, none⟩) N co ref :: ringO rb c.seed lb N c.grace (asked + 1) :: (lb, row 161 ((ones.set k ⟨gen, now⟩).flatMap On.cs)) :: (nb, row 118 ((nws.set k pn).map pp ++ sn)) :: (ob, row 118 ((ols.set k p).map pp ++ so)) :: (repO pn c.window 0 0 0 :: T.set ip (repO p c.window (top + 1) (nextB c.window bits) rr)))) (fun w h => ro_rt w h) ?_
            exact ⟨pn, rfl, rfl⟩
          · skip
            (exfalso; omega)

end Go.Proofs.Ytphoapajlcaoeaa
/- walks -/
set_option linter.unusedVariables false
set_option linter.unusedSimpArgs false
set_option maxRecDepth 100000
set_option maxHeartbeats 4000000
namespace Go.Proofs.Ytphoapajlcaoeaa
open Go Go.X
theorem chk0 {a b c d e : Bool} (h1 : a = true) (h2 : b = true) (h3 : c = true) (h4 : d = false) (h5 : e = true) : chkC a b c d e = 0 := by subst h1 h2 h3 h4 h5; rfl
theorem chk7 {a b c d e : Bool} (h1 : a = true) (h2 : b = true) (h3 : c = true) (h4 : d = true) : chkC a b c d e = 7 := by subst h1 h2 h3 h4; rfl
theorem chk6 {a b c d e : Bool} (h1 : a = true) (h2 : b = true) (h3 : c = false) : chkC a b c d e = 6 := by subst h1 h2 h3; rfl
theorem chk5 {a b c d e : Bool} (h1 : a = true) (h2 : b = false) : chkC a b c d e = 5 := by subst h1 h2; rfl
theorem set_40 (k : K2) (m : Ms) (c : UInt8) : (sealB k m).set 40 c = putM m ++ (tagB (tagOf k (putM m))).set 8 c := by
  rw [sealB, List.set_append_right _ _ (by simp)]; simp
theorem turned_ne (k : K2) (m : Ms) : (sealB k m).getD 40 0 ^^^ 1 ≠ (tagB (tagOf k (putM m))).getD 8 0 := by
  have e : (sealB k m).getD 40 0 = (tagB (tagOf k (putM m))).getD 8 0 := by
    rw [sealB, List.getD_eq_getElem?_getD, List.getElem?_append_right (by simp), List.getD_eq_getElem?_getD]; simp
  rw [e]
  exact xor8_ne (by decide)
/-- quorumite/quorumitelaw8.told -/
theorem told8_fn (M : Hp) : FnC Try.prog 35 #[] M (fun v M' => v = .bool true ∧ M = M') := by
  refine FnC.intro Try.func35 rfl 174 rfl (by simp) (fun z => ?_)
  refine TC.env (E' := []) (Sub.nil _) ?_
  refine TC.seq ?_
  refine TC.region ?_
  refine TL.val rfl rfl (Nat.le_of_ble_eq_true rfl) (Val.assign rfl) ?_
  refine TL.nil ?_
  refine AtX.then ?_
  refine TC.seq ?_
  refine TC.region ?_
  refine TL.does (some 24) rfl rfl rfl (Does.callF go45 rfl (Default_fn _)) ?_
  rintro _ _ ⟨rfl, rfl⟩
  refine TL.does (some 25) rfl rfl rfl (Does.callF go29 rfl (gNew_fn cfD 4 _ okD rfl)) ?_
  rintro _ _ ⟨gb, rb, lb, nb, cn, sn, ob, co, so, nws, ols, rfl, hnl, hol, rfl⟩
  obtain ⟨n0, n1, n2, n3, rfl⟩ := list4 hnl
  obtain ⟨o0, o1, o2, o3, rfl⟩ := list4 hol
  refine TL.heap (M' := gateO gb cfD rb (some ⟨nb, 0, none⟩) 4 cn (some ⟨ob, 0, none⟩) 4 co 0 :: ringO rb cfD.seed lb 4 cfD.grace 0 :: (lb, row 161 (([⟨0, 0⟩, ⟨0, 0⟩, ⟨0, 0⟩, ⟨0, 0⟩] : List On).flatMap On.cs)) :: (nb, row 118 (([n0, n1, n2, n3] : List Nat).map pp ++ sn)) :: (ob, row 118 (([o0, o1, o2, o3] : List Nat).map pp ++ so)) :: (repO n0 cfD.window 0 0 0 :: repO n1 cfD.window 0 0 0 :: repO n2 cfD.window 0 0 0 :: repO n3 cfD.window 0 0 0 :: repO o0 cfD.window 0 0 0 :: repO o1 cfD.window 0 0 0 :: repO o2 cfD.window 0 0 0 :: repO o3 cfD.window 0 0 0 :: M)) (fun w h => h) ?_
  refine TL.val rfl rfl (Nat.le_of_ble_eq_true rfl) (Val.assign rfl) ?_
  refine TL.nil ?_
  refine AtX.then ?_
  refine TC.env (E' := [(0, _), (1, _)]) (Sub.cons rfl (Sub.cons rfl (Sub.nil _))) ?_
  refine TC.seq ?_
  refine TC.region ?_
  refine TL.does (some 26) rfl rfl rfl (Does.callF go30 rfl (sNew_fn 1 2 _ ⟨by decide, by decide⟩)) ?_
  rintro _ _ ⟨sb, rfl, rfl⟩
  refine TL.heap (M' := gateO gb cfD rb (some ⟨nb, 0, none⟩) 4 cn (some ⟨ob, 0, none⟩) 4 co 0 :: ringO rb cfD.seed lb 4 cfD.grace 0 :: (lb, row 161 (([⟨0, 0⟩, ⟨0, 0⟩, ⟨0, 0⟩, ⟨0, 0⟩] : List On).flatMap On.cs)) :: (nb, row 118 (([n0, n1, n2, n3] : List Nat).map pp ++ sn)) :: (ob, row 118 (([o0, o1, o2, o3] : List Nat).map pp ++ so)) :: (sobj sb 1 2 0 0 :: repO n0 cfD.window 0 0 0 :: repO n1 cfD.window 0 0 0 :: repO n2 cfD.window 0 0 0 :: repO n3 cfD.window 0 0 0 :: repO o0 cfD.window 0 0 0 :: repO o1 cfD.window 0 0 0 :: repO o2 cfD.window 0 0 0 :: repO o3 cfD.window 0 0 0 :: M)) (fun w h => ro_mv (A := [_]) (L := [_, _, _, _, _]) w h) ?_
  refine TL.val rfl rfl (Nat.le_of_ble_eq_true rfl) (Val.assign rfl) ?_
  refine TL.nil ?_
  refine AtX.then ?_
  refine TC.env (E' := [(0, _), (1, _), (2, _)]) (Sub.cons rfl (Sub.cons rfl (Sub.cons rfl (Sub.nil _)))) ?_
  refine TC.seq ?_
  refine TC.seq ?_
  refine TC.region ?_
  refine TL.val rfl rfl (Nat.le_of_ble_eq_true rfl) (Val.move rfl) ?_
  refine TL.val rfl rfl (Nat.le_of_ble_eq_true rfl) (Val.eqlNil rfl rfl pt55) ?_
  refine TL.val rfl rfl (Nat.le_of_ble_eq_true rfl) (Val.move rfl) ?_
  refine TL.valYes rfl rfl (Nat.le_of_ble_eq_true rfl) rfl (Nat.le_of_ble_eq_true rfl) rfl (Val.move rfl) ?_
  refine TL.valYes rfl rfl (Nat.le_of_ble_eq_true rfl) rfl (Nat.le_of_ble_eq_true rfl) rfl (Val.eqlNil rfl rfl pt57) ?_
  refine TL.val rfl rfl (Nat.le_of_ble_eq_true rfl) (Val.pickOr rfl rfl rfl) ?_
  refine TL.nil ?_
  refine AtX.then ?_
  refine TC.env (E' := [(0, _), (1, _), (2, _), (32, _)]) (Sub.cons rfl (Sub.cons rfl (Sub.cons rfl (Sub.cons rfl (Sub.nil _))))) ?_
  first | refine TC.condP rfl (fun c1 => ?_) (fun c1 => ?_) | refine TC.condN rfl (fun c1 => ?_) (fun c1 => ?_) | refine TC.condB rfl (fun c1 => ?_) (fun c1 => ?_) | refine TC.cond rfl (fun c1 => ?_) (fun c1 => ?_)
  · skip
    (exfalso; simp at c1)
  · skip
    refine TC.env (E' := [(0, _), (1, _), (2, _)]) (Sub.cons rfl (Sub.cons rfl (Sub.cons rfl (Sub.nil _)))) ?_
    refine TC.skip ?_
    refine AtX.then ?_
    refine TC.env (E' := [(0, _), (1, _), (2, _)]) (Sub.cons rfl (Sub.cons rfl (Sub.cons rfl (Sub.nil _)))) ?_
    refine TC.seq ?_
    refine TC.region ?_
    refine TL.val rfl rfl (Nat.le_of_ble_eq_true rfl) (Val.move rfl) ?_
    refine TL.does (some 35) rfl rfl rfl (Does.callF go31 rfl (sSample_fn sb 5 1 2 0 0 0 1 9 _ rfl (by decide))) ?_
    rintro _ _ ⟨bE, cE, spE, rfl, hcE, rfl⟩
    refine TL.heap (M' := gateO gb cfD rb (some ⟨nb, 0, none⟩) 4 cn (some ⟨ob, 0, none⟩) 4 co 0 :: ringO rb cfD.seed lb 4 cfD.grace 0 :: (lb, row 161 (([⟨0, 0⟩, ⟨0, 0⟩, ⟨0, 0⟩, ⟨0, 0⟩] : List On).flatMap On.cs)) :: (nb, row 118 (([n0, n1, n2, n3] : List Nat).map pp ++ sn)) :: (ob, row 118 (([o0, o1, o2, o3] : List Nat).map pp ++ so)) :: ((bE, row 5 (bv (sealB (macKey 1 2 0) ⟨1, (2 : Nat), 0, 1, 1, 9, 0⟩) ++ spE)) :: sobj sb 1 2 0 1 :: repO n0 cfD.window 0 0 0 :: repO n1 cfD.window 0 0 0 :: repO n2 cfD.window 0 0 0 :: repO n3 cfD.window 0 0 0 :: repO o0 cfD.window 0 0 0 :: repO o1 cfD.window 0 0 0 :: repO o2 cfD.window 0 0 0 :: repO o3 cfD.window 0 0 0 :: M)) (fun w h => ro_mv (A := [_]) (L := [_, _, _, _, _]) w h) ?_
    refine TL.val rfl rfl (Nat.le_of_ble_eq_true rfl) (Val.move rfl) ?_
    refine TL.val rfl rfl (Nat.le_of_ble_eq_true rfl) (Val.extract rfl rfl) ?_
    refine TL.val rfl rfl (Nat.le_of_ble_eq_true rfl) (Val.extract rfl rfl) ?_
    refine TL.val rfl rfl (Nat.le_of_ble_eq_true rfl) (Val.assign rfl) ?_
    refine TL.val rfl rfl (Nat.le_of_ble_eq_true rfl) (Val.assign rfl) ?_
    refine TL.nil ?_
    refine AtX.then ?_
    refine TC.env (E' := [(0, _), (1, _), (2, _), (3, _)]) (Sub.cons rfl (Sub.cons rfl (Sub.cons rfl (Sub.cons rfl (Sub.nil _))))) ?_
    refine TC.seq ?_
    refine TC.region ?_
    refine TL.val rfl rfl (Nat.le_of_ble_eq_true rfl) (Val.move rfl) ?_
    refine TL.val rfl rfl (Nat.le_of_ble_eq_true rfl) (Val.move rfl) ?_
    refine TL.does (some 41) rfl rfl rfl (Does.callF go32 rfl ((Check_nil gb rb lb nb cn ob co sn so cfD 4 0 0 ([⟨0, 0⟩, ⟨0, 0⟩, ⟨0, 0⟩, ⟨0, 0⟩] : List On) ([n0, n1, n2, n3] : List Nat) ([o0, o1, o2, o3] : List Nat) ((bE, row 5 (bv (sealB (macKey 1 2 0) ⟨1, (2 : Nat), 0, 1, 1, 9, 0⟩) ++ spE)) :: sobj sb 1 2 0 1 :: repO n0 cfD.window 0 0 0 :: repO n1 cfD.window 0 0 0 :: repO n2 cfD.window 0 0 0 :: repO n3 cfD.window 0 0 0 :: repO o0 cfD.window 0 0 0 :: repO o1 cfD.window 0 0 0 :: repO o2 cfD.window 0 0 0 :: repO o3 cfD.window 0 0 0 :: M) rfl rfl rfl rfl ⟨by decide, by decide⟩ ⟨by decide, by decide⟩ 2 ⟨0, 0⟩ rfl ⟨by decide, by decide⟩ ⟨by decide, by decide⟩ 1 0 1 1 9 0 ⟨by decide, by decide⟩ (by decide) 0 okD n2 o2 rfl rfl 4 0 0 0 ⟨by decide, by decide⟩ rfl ⟨by decide, by decide⟩ (by decide) ⟨by decide, by decide⟩ (tagB (tagOf (macKey 1 2 0) (putM ⟨1, (2 : Nat), 0, 1, 1, 9, 0⟩))) (some ⟨bE, 0, none⟩) cE (rd_all (i := 0) (sp := spE) rfl) (by omega) (by simp)).mono (fun v M' h => h.elim (fun h => And.intro h.2.1 h.2.2) (fun h => False.elim (h.1 (chk0 rfl (decide_eq_true (same_yes (tagOf_bd (macKey 1 2 0) (putM ⟨1, (2 : Nat), 0, 1, 1, 9, 0⟩)).1 (tagOf_bd (macKey 1 2 0) (putM ⟨1, (2 : Nat), 0, 1, 1, 9, 0⟩)).2)) (by decide +kernel) (by decide) (by decide))))))) ?_
    rintro _ _ ⟨rfl, rfl⟩
    refine TL.val rfl rfl (Nat.le_of_ble_eq_true rfl) (Val.move rfl) ?_
    refine TL.val rfl rfl (Nat.le_of_ble_eq_true rfl) (Val.extract rfl rfl) ?_
    refine TL.val rfl rfl (Nat.le_of_ble_eq_true rfl) (Val.extract rfl rfl) ?_
    refine TL.does (some 5) rfl rfl rfl (Does.alloc ze61 rfl) ?_
    rintro _ _ ⟨b5_, rfl, rfl⟩
    refine TL.does none rfl rfl rfl (Does.store (i := 0) rfl rfl rfl sz61 rfl rfl (by first | exact Nat.le_of_ble_eq_true rfl | decide | omega) rfl rfl) ?_
    rintro _ _ ⟨rfl, rfl⟩
    refine TL.val rfl rfl (Nat.le_of_ble_eq_true rfl) (Val.assign rfl) ?_
    refine TL.nil ?_
    refine AtX.then ?_
    refine TC.env (E' := [(0, _), (1, _), (2, _), (3, _), (5, _), (6, _)]) (Sub.cons rfl (Sub.cons rfl (Sub.cons rfl (Sub.cons rfl (Sub.cons rfl (Sub.cons rfl (Sub.nil _))))))) ?_
    refine TC.seq ?_
    refine TC.heap (M' := gateO gb cfD rb (some ⟨nb, 0, none⟩) 4 cn (some ⟨ob, 0, none⟩) 4 co 0 :: ringO rb cfD.seed lb 4 cfD.grace 1 :: (lb, row 161 (([⟨0, 0⟩, ⟨0, 0⟩, ⟨0, 0⟩, ⟨0, 0⟩] : List On).flatMap On.cs)) :: (nb, row 118 (([n0, n1, n2, n3] : List Nat).map pp ++ sn)) :: (ob, row 118 (([o0, o1, o2, o3] : List Nat).map pp ++ so)) :: ((b5_, .cells #[.int .i64 1, .int .i64 2, .int .i64 0, .int .i64 1, .int .i64 1, .int .i64 9, .int .i64 0] 61 (0, 0)) :: (bE, row 5 (bv (sealB (macKey 1 2 0) ⟨1, (2 : Nat), 0, 1, 1, 9, 0⟩) ++ spE)) :: sobj sb 1 2 0 1 :: repO n0 cfD.window 0 0 0 :: repO n1 cfD.window 0 0 0 :: repO n2 cfD.window 0 0 0 :: repO n3 cfD.window 0 0 0 :: repO o0 cfD.window 0 0 0 :: repO o1 cfD.window 0 0 0 :: repO o2 cfD.window 0 0 0 :: repO o3 cfD.window 0 0 0 :: M)) (fun w h => ro_mv (A := [_]) (L := [_, _, _, _, _]) w h) ?_
    refine TC.region ?_
    refine TL.val rfl rfl (Nat.le_of_ble_eq_true rfl) (Val.move rfl) ?_
    refine TL.val rfl rfl (Nat.le_of_ble_eq_true rfl) (Val.move rfl) ?_
    refine TL.does (some 47) rfl rfl rfl (Does.callF go32 rfl ((Check_nil gb rb lb nb cn ob co sn so cfD 4 1 0 ([⟨0, 0⟩, ⟨0, 0⟩, ⟨0, 0⟩, ⟨0, 0⟩] : List On) ([n0, n1, n2, n3] : List Nat) ([o0, o1, o2, o3] : List Nat) ((b5_, .cells #[.int .i64 1, .int .i64 2, .int .i64 0, .int .i64 1, .int .i64 1, .int .i64 9, .int .i64 0] 61 (0, 0)) :: (bE, row 5 (bv (sealB (macKey 1 2 0) ⟨1, (2 : Nat), 0, 1, 1, 9, 0⟩) ++ spE)) :: sobj sb 1 2 0 1 :: repO n0 cfD.window 0 0 0 :: repO n1 cfD.window 0 0 0 :: repO n2 cfD.window 0 0 0 :: repO n3 cfD.window 0 0 0 :: repO o0 cfD.window 0 0 0 :: repO o1 cfD.window 0 0 0 :: repO o2 cfD.window 0 0 0 :: repO o3 cfD.window 0 0 0 :: M) rfl rfl rfl rfl ⟨by decide, by decide⟩ ⟨by decide, by decide⟩ 2 ⟨0, 0⟩ rfl ⟨by decide, by decide⟩ ⟨by decide, by decide⟩ 1 0 1 1 9 0 ⟨by decide, by decide⟩ (by decide) 2 okD n2 o2 rfl rfl 5 0 0 0 ⟨by decide, by decide⟩ rfl ⟨by decide, by decide⟩ (by decide) ⟨by decide, by decide⟩ (tagB (tagOf (macKey 1 2 0) (putM ⟨1, (2 : Nat), 0, 1, 1, 9, 0⟩))) (some ⟨bE, 0, none⟩) cE (rd_all (i := 1) (sp := spE) rfl) (by omega) (by simp)).mono (fun v M' h => h.elim (fun h => absurd (h.1.symm.trans (chk7 rfl (decide_eq_true (same_yes (tagOf_bd (macKey 1 2 0) (putM ⟨1, (2 : Nat), 0, 1, 1, 9, 0⟩)).1 (tagOf_bd (macKey 1 2 0) (putM ⟨1, (2 : Nat), 0, 1, 1, 9, 0⟩)).2)) (by decide +kernel) (by decide))) (by decide)) (fun h => And.intro (h.2.1.trans (congrArg (fun q => Value.tuple #[.agg #[.int .i64 0, .int .i64 0, .int .i64 0, .int .i64 0, .int .i64 0, .int .i64 0, .int .i64 0], .int .i64 q]) (chk7 rfl (decide_eq_true (same_yes (tagOf_bd (macKey 1 2 0) (putM ⟨1, (2 : Nat), 0, 1, 1, 9, 0⟩)).1 (tagOf_bd (macKey 1 2 0) (putM ⟨1, (2 : Nat), 0, 1, 1, 9, 0⟩)).2)) (by decide +kernel) (by decide)))) h.2.2)))) ?_
    rintro _ _ ⟨rfl, rfl⟩
    refine TL.val rfl rfl (Nat.le_of_ble_eq_true rfl) (Val.move rfl) ?_
    refine TL.val rfl rfl (Nat.le_of_ble_eq_true rfl) (Val.extract rfl rfl) ?_
    refine TL.val rfl rfl (Nat.le_of_ble_eq_true rfl) (Val.extract rfl rfl) ?_
    refine TL.does (some 7) rfl rfl rfl (Does.alloc ze61 rfl) ?_
    rintro _ _ ⟨b7, rfl, rfl⟩
    refine TL.does none rfl rfl rfl (Does.store (i := 0) rfl rfl rfl sz61 rfl rfl (by first | exact Nat.le_of_ble_eq_true rfl | decide | omega) rfl rfl) ?_
    rintro _ _ ⟨rfl, rfl⟩
    refine TL.val rfl rfl (Nat.le_of_ble_eq_true rfl) (Val.assign rfl) ?_
    refine TL.nil ?_
    refine AtX.then ?_
    refine TC.env (E' := [(0, _), (1, _), (2, _), (3, _), (5, _), (6, _), (8, _)]) (Sub.cons rfl (Sub.cons rfl (Sub.cons rfl (Sub.cons rfl (Sub.cons rfl (Sub.cons rfl (Sub.cons rfl (Sub.nil _)))))))) ?_
    refine TC.seq ?_
    refine TC.heap (M' := gateO gb cfD rb (some ⟨nb, 0, none⟩) 4 cn (some ⟨ob, 0, none⟩) 4 co 1 :: ringO rb cfD.seed lb 4 cfD.grace 2 :: (lb, row 161 (([⟨0, 0⟩, ⟨0, 0⟩, ⟨0, 0⟩, ⟨0, 0⟩] : List On).flatMap On.cs)) :: (nb, row 118 (([n0, n1, n2, n3] : List Nat).map pp ++ sn)) :: (ob, row 118 (([o0, o1, o2, o3] : List Nat).map pp ++ so)) :: ((b5_, .cells #[.int .i64 1, .int .i64 2, .int .i64 0, .int .i64 1, .int .i64 1, .int .i64 9, .int .i64 0] 61 (0, 0)) :: (bE, row 5 (bv (sealB (macKey 1 2 0) ⟨1, (2 : Nat), 0, 1, 1, 9, 0⟩) ++ spE)) :: sobj sb 1 2 0 1 :: repO n0 cfD.window 0 0 0 :: repO n1 cfD.window 0 0 0 :: repO n2 cfD.window 0 0 0 :: repO n3 cfD.window 0 0 0 :: repO o0 cfD.window 0 0 0 :: repO o1 cfD.window 0 0 0 :: repO o2 cfD.window 0 0 0 :: repO o3 cfD.window 0 0 0 :: M)) (fun w h => h.drop) ?_
    refine TC.region ?_
    refine TL.val rfl rfl (Nat.le_of_ble_eq_true rfl) (Val.move rfl) ?_
    refine TL.val rfl rfl (Nat.le_of_ble_eq_true rfl) (Val.move rfl) ?_
    refine TL.does (some 53) rfl rfl rfl (Does.callF go32 rfl (Check_two gb rb lb nb cn ob co sn so cfD 4 2 1 ([⟨0, 0⟩, ⟨0, 0⟩, ⟨0, 0⟩, ⟨0, 0⟩] : List On) ([n0, n1, n2, n3] : List Nat) ([o0, o1, o2, o3] : List Nat) ((b5_, .cells #[.int .i64 1, .int .i64 2, .int .i64 0, .int .i64 1, .int .i64 1, .int .i64 9, .int .i64 0] 61 (0, 0)) :: (bE, row 5 (bv (sealB (macKey 1 2 0) ⟨1, (2 : Nat), 0, 1, 1, 9, 0⟩) ++ spE)) :: sobj sb 1 2 0 1 :: repO n0 cfD.window 0 0 0 :: repO n1 cfD.window 0 0 0 :: repO n2 cfD.window 0 0 0 :: repO n3 cfD.window 0 0 0 :: repO o0 cfD.window 0 0 0 :: repO o1 cfD.window 0 0 0 :: repO o2 cfD.window 0 0 0 :: repO o3 cfD.window 0 0 0 :: M) rfl rfl rfl rfl ⟨by decide, by decide⟩ ⟨by decide, by decide⟩ 2 ⟨0, 0⟩ rfl ⟨by decide, by decide⟩ ⟨by decide, by decide⟩ 1 0 1 1 9 0 ⟨by decide, by decide⟩ (by decide) 0 okD n2 o2 rfl rfl 5 0 0 0 ⟨by decide, by decide⟩ rfl ⟨by decide, by decide⟩ (by decide) ⟨by decide, by decide⟩ (tagB (tagOf (macKey 1 2 0) (putM ⟨1, (2 : Nat), 0, 1, 1, 9, 0⟩))) (some ⟨bE, 0, none⟩) cE (rd_all (i := 1) (sp := spE) rfl) (by omega) (by simp) rfl)) ?_
    rintro _ _ ⟨rfl, rfl⟩
    refine TL.val rfl rfl (Nat.le_of_ble_eq_true rfl) (Val.move rfl) ?_
    refine TL.val rfl rfl (Nat.le_of_ble_eq_true rfl) (Val.extract rfl rfl) ?_
    refine TL.val rfl rfl (Nat.le_of_ble_eq_true rfl) (Val.extract rfl rfl) ?_
    refine TL.does (some 9) rfl rfl rfl (Does.alloc ze61 rfl) ?_
    rintro _ _ ⟨b9, rfl, rfl⟩
    refine TL.does none rfl rfl rfl (Does.store (i := 0) rfl rfl rfl sz61 rfl rfl (by first | exact Nat.le_of_ble_eq_true rfl | decide | omega) rfl rfl) ?_
    rintro _ _ ⟨rfl, rfl⟩
    refine TL.val rfl rfl (Nat.le_of_ble_eq_true rfl) (Val.assign rfl) ?_
    refine TL.nil ?_
    refine AtX.then ?_
    refine TC.env (E' := [(0, _), (1, _), (2, _), (3, _), (5, _), (6, _), (8, _), (10, _)]) (Sub.cons rfl (Sub.cons rfl (Sub.cons rfl (Sub.cons rfl (Sub.cons rfl (Sub.cons rfl (Sub.cons rfl (Sub.cons rfl (Sub.nil _))))))))) ?_
    refine TC.seq ?_
    refine TC.heap (M' := gateO gb cfD rb (some ⟨nb, 0, none⟩) 4 cn (some ⟨ob, 0, none⟩) 4 co 2 :: ringO rb cfD.seed lb 4 cfD.grace 2 :: (lb, row 161 (([⟨0, 0⟩, ⟨0, 0⟩, ⟨0, 0⟩, ⟨0, 0⟩] : List On).flatMap On.cs)) :: (nb, row 118 (([n0, n1, n2, n3] : List Nat).map pp ++ sn)) :: (ob, row 118 (([o0, o1, o2, o3] : List Nat).map pp ++ so)) :: ((b5_, .cells #[.int .i64 1, .int .i64 2, .int .i64 0, .int .i64 1, .int .i64 1, .int .i64 9, .int .i64 0] 61 (0, 0)) :: (bE, row 5 (bv (sealB (macKey 1 2 0) ⟨1, (2 : Nat), 0, 1, 1, 9, 0⟩) ++ spE)) :: sobj sb 1 2 0 1 :: repO n0 cfD.window 0 0 0 :: repO n1 cfD.window 0 0 0 :: repO n2 cfD.window 0 0 0 :: repO n3 cfD.window 0 0 0 :: repO o0 cfD.window 0 0 0 :: repO o1 cfD.window 0 0 0 :: repO o2 cfD.window 0 0 0 :: repO o3 cfD.window 0 0 0 :: M)) (fun w h => h.drop) ?_
    refine TC.region ?_
    refine TL.val rfl rfl (Nat.le_of_ble_eq_true rfl) (Val.move rfl) ?_
    refine TL.val rfl rfl (Nat.le_of_ble_eq_true rfl) (Val.loadAgg 5 rfl ag61 sz61 rfl rfl rfl) ?_
    refine TL.does (some 58) rfl rfl rfl (Does.callF go33 rfl (Take_s gb rb lb nb cn ob co sn so cfD 4 2 2 ([⟨0, 0⟩, ⟨0, 0⟩, ⟨0, 0⟩, ⟨0, 0⟩] : List On) ([n0, n1, n2, n3] : List Nat) ([o0, o1, o2, o3] : List Nat) ((b5_, .cells #[.int .i64 1, .int .i64 2, .int .i64 0, .int .i64 1, .int .i64 1, .int .i64 9, .int .i64 0] 61 (0, 0)) :: (bE, row 5 (bv (sealB (macKey 1 2 0) ⟨1, (2 : Nat), 0, 1, 1, 9, 0⟩) ++ spE)) :: sobj sb 1 2 0 1 :: repO n0 cfD.window 0 0 0 :: repO n1 cfD.window 0 0 0 :: repO n2 cfD.window 0 0 0 :: repO n3 cfD.window 0 0 0 :: repO o0 cfD.window 0 0 0 :: repO o1 cfD.window 0 0 0 :: repO o2 cfD.window 0 0 0 :: repO o3 cfD.window 0 0 0 :: M) rfl rfl rfl rfl ⟨by decide, by decide⟩ ⟨by decide, by decide⟩ 2 ⟨0, 0⟩ rfl ⟨by decide, by decide⟩ ⟨by decide, by decide⟩ 1 0 1 1 9 0 ⟨by decide, by decide⟩ (by decide) 0 okD n2 o2 rfl rfl 5 0 0 0 ⟨by decide, by decide⟩ rfl ⟨by decide, by decide⟩ (by decide) rfl (by decide) rfl (by decide +kernel))) ?_
    rintro _ _ ⟨rfl, rfl⟩
    refine TL.heap (M' := gateO gb cfD rb (some ⟨nb, 0, none⟩) 4 cn (some ⟨ob, 0, none⟩) 4 co 2 :: ringO rb cfD.seed lb 4 cfD.grace 3 :: (lb, row 161 (([⟨0, 0⟩, ⟨0, 0⟩, ⟨0, 0⟩, ⟨0, 0⟩] : List On).flatMap On.cs)) :: (nb, row 118 (([n0, n1, n2, n3] : List Nat).map pp ++ sn)) :: (ob, row 118 (([o0, o1, o2, o3] : List Nat).map pp ++ so)) :: ((b5_, .cells #[.int .i64 1, .int .i64 2, .int .i64 0, .int .i64 1, .int .i64 1, .int .i64 9, .int .i64 0] 61 (0, 0)) :: (bE, row 5 (bv (sealB (macKey 1 2 0) ⟨1, (2 : Nat), 0, 1, 1, 9, 0⟩) ++ spE)) :: sobj sb 1 2 0 1 :: repO n0 cfD.window 0 0 0 :: repO n1 cfD.window 0 0 0 :: repO n2 cfD.window 1 (nextB cfD.window 0) 0 :: repO n3 cfD.window 0 0 0 :: repO o0 cfD.window 0 0 0 :: repO o1 cfD.window 0 0 0 :: repO o2 cfD.window 0 0 0 :: repO o3 cfD.window 0 0 0 :: M)) (fun w h => h) ?_
    refine TL.val rfl rfl (Nat.le_of_ble_eq_true rfl) (Val.assign rfl) ?_
    refine TL.nil ?_
    refine AtX.then ?_
    refine TC.env (E' := [(0, _), (1, _), (2, _), (3, _), (5, _), (6, _), (8, _), (10, _), (11, _)]) (Sub.cons rfl (Sub.cons rfl (Sub.cons rfl (Sub.cons rfl (Sub.cons rfl (Sub.cons rfl (Sub.cons rfl (Sub.cons rfl (Sub.cons rfl (Sub.nil _)))))))))) ?_
    refine TC.seq ?_
    refine TC.region ?_
    refine TL.val rfl rfl (Nat.le_of_ble_eq_true rfl) (Val.move rfl) ?_
    refine TL.val rfl rfl (Nat.le_of_ble_eq_true rfl) (Val.move rfl) ?_
    refine TL.does (some 62) rfl rfl rfl (Does.callF go32 rfl ((Check_nil gb rb lb nb cn ob co sn so cfD 4 3 2 ([⟨0, 0⟩, ⟨0, 0⟩, ⟨0, 0⟩, ⟨0, 0⟩] : List On) ([n0, n1, n2, n3] : List Nat) ([o0, o1, o2, o3] : List Nat) ((b5_, .cells #[.int .i64 1, .int .i64 2, .int .i64 0, .int .i64 1, .int .i64 1, .int .i64 9, .int .i64 0] 61 (0, 0)) :: (bE, row 5 (bv (sealB (macKey 1 2 0) ⟨1, (2 : Nat), 0, 1, 1, 9, 0⟩) ++ spE)) :: sobj sb 1 2 0 1 :: repO n0 cfD.window 0 0 0 :: repO n1 cfD.window 0 0 0 :: repO n2 cfD.window 1 (nextB cfD.window 0) 0 :: repO n3 cfD.window 0 0 0 :: repO o0 cfD.window 0 0 0 :: repO o1 cfD.window 0 0 0 :: repO o2 cfD.window 0 0 0 :: repO o3 cfD.window 0 0 0 :: M) rfl rfl rfl rfl ⟨by decide, by decide⟩ ⟨by decide, by decide⟩ 2 ⟨0, 0⟩ rfl ⟨by decide, by decide⟩ ⟨by decide, by decide⟩ 1 0 1 1 9 0 ⟨by decide, by decide⟩ (by decide) 0 okD n2 o2 rfl rfl 5 1 (nextB cfD.window 0) 0 ⟨by decide, by decide⟩ rfl ⟨by decide, by decide⟩ (by decide) ⟨by decide, by decide⟩ (tagB (tagOf (macKey 1 2 0) (putM ⟨1, (2 : Nat), 0, 1, 1, 9, 0⟩))) (some ⟨bE, 0, none⟩) cE (rd_all (i := 1) (sp := spE) rfl) (by omega) (by simp)).mono (fun v M' h => h.elim (fun h => absurd (h.1.symm.trans (chk6 rfl (decide_eq_true (same_yes (tagOf_bd (macKey 1 2 0) (putM ⟨1, (2 : Nat), 0, 1, 1, 9, 0⟩)).1 (tagOf_bd (macKey 1 2 0) (putM ⟨1, (2 : Nat), 0, 1, 1, 9, 0⟩)).2)) (by decide +kernel))) (by decide)) (fun h => And.intro (h.2.1.trans (congrArg (fun q => Value.tuple #[.agg #[.int .i64 0, .int .i64 0, .int .i64 0, .int .i64 0, .int .i64 0, .int .i64 0, .int .i64 0], .int .i64 q]) (chk6 rfl (decide_eq_true (same_yes (tagOf_bd (macKey 1 2 0) (putM ⟨1, (2 : Nat), 0, 1, 1, 9, 0⟩)).1 (tagOf_bd (macKey 1 2 0) (putM ⟨1, (2 : Nat), 0, 1, 1, 9, 0⟩)).2)) (by decide +kernel)))) h.2.2)))) ?_
    rintro _ _ ⟨rfl, rfl⟩
    refine TL.val rfl rfl (Nat.le_of_ble_eq_true rfl) (Val.move rfl) ?_
    refine TL.val rfl rfl (Nat.le_of_ble_eq_true rfl) (Val.extract rfl rfl) ?_
    refine TL.val rfl rfl (Nat.le_of_ble_eq_true rfl) (Val.extract rfl rfl) ?_
    refine TL.does (some 12) rfl rfl rfl (Does.alloc ze61 rfl) ?_
    rintro _ _ ⟨b12, rfl, rfl⟩
    refine TL.does none rfl rfl rfl (Does.store (i := 0) rfl rfl rfl sz61 rfl rfl (by first | exact Nat.le_of_ble_eq_true rfl | decide | omega) rfl rfl) ?_
    rintro _ _ ⟨rfl, rfl⟩
    refine TL.val rfl rfl (Nat.le_of_ble_eq_true rfl) (Val.assign rfl) ?_
    refine TL.nil ?_
    refine AtX.then ?_
    refine TC.env (E' := [(0, _), (1, _), (2, _), (3, _), (5, _), (6, _), (8, _), (10, _), (11, _), (13, _)]) (Sub.cons rfl (Sub.cons rfl (Sub.cons rfl (Sub.cons rfl (Sub.cons rfl (Sub.cons rfl (Sub.cons rfl (Sub.cons rfl (Sub.cons rfl (Sub.cons rfl (Sub.nil _))))))))))) ?_
    refine TC.seq ?_
    refine TC.heap (M' := gateO gb cfD rb (some ⟨nb, 0, none⟩) 4 cn (some ⟨ob, 0, none⟩) 4 co 3 :: ringO rb cfD.seed lb 4 cfD.grace 4 :: (lb, row 161 (([⟨0, 0⟩, ⟨0, 0⟩, ⟨0, 0⟩, ⟨0, 0⟩] : List On).flatMap On.cs)) :: (nb, row 118 (([n0, n1, n2, n3] : List Nat).map pp ++ sn)) :: (ob, row 118 (([o0, o1, o2, o3] : List Nat).map pp ++ so)) :: ((b5_, .cells #[.int .i64 1, .int .i64 2, .int .i64 0, .int .i64 1, .int .i64 1, .int .i64 9, .int .i64 0] 61 (0, 0)) :: (bE, row 5 (bv (sealB (macKey 1 2 0) ⟨1, (2 : Nat), 0, 1, 1, 9, 0⟩) ++ spE)) :: sobj sb 1 2 0 1 :: repO n0 cfD.window 0 0 0 :: repO n1 cfD.window 0 0 0 :: repO n2 cfD.window 1 (nextB cfD.window 0) 0 :: repO n3 cfD.window 0 0 0 :: repO o0 cfD.window 0 0 0 :: repO o1 cfD.window 0 0 0 :: repO o2 cfD.window 0 0 0 :: repO o3 cfD.window 0 0 0 :: M)) (fun w h => h.drop) ?_
    refine TC.region ?_
    refine TL.val rfl rfl (Nat.le_of_ble_eq_true rfl) (Val.move rfl) ?_
    refine TL.does (some 67) rfl rfl rfl (Does.callF go32 rfl (Check_no gb rb lb nb cn ob co sn so cfD 4 4 3 ([⟨0, 0⟩, ⟨0, 0⟩, ⟨0, 0⟩, ⟨0, 0⟩] : List On) ([n0, n1, n2, n3] : List Nat) ([o0, o1, o2, o3] : List Nat) ((b5_, .cells #[.int .i64 1, .int .i64 2, .int .i64 0, .int .i64 1, .int .i64 1, .int .i64 9, .int .i64 0] 61 (0, 0)) :: (bE, row 5 (bv (sealB (macKey 1 2 0) ⟨1, (2 : Nat), 0, 1, 1, 9, 0⟩) ++ spE)) :: sobj sb 1 2 0 1 :: repO n0 cfD.window 0 0 0 :: repO n1 cfD.window 0 0 0 :: repO n2 cfD.window 1 (nextB cfD.window 0) 0 :: repO n3 cfD.window 0 0 0 :: repO o0 cfD.window 0 0 0 :: repO o1 cfD.window 0 0 0 :: repO o2 cfD.window 0 0 0 :: repO o3 cfD.window 0 0 0 :: M) none 0 0 (by decide) 0 ⟨by decide, by decide⟩)) ?_
    rintro _ _ ⟨rfl, rfl⟩
    refine TL.val rfl rfl (Nat.le_of_ble_eq_true rfl) (Val.move rfl) ?_
    refine TL.val rfl rfl (Nat.le_of_ble_eq_true rfl) (Val.extract rfl rfl) ?_
    refine TL.val rfl rfl (Nat.le_of_ble_eq_true rfl) (Val.extract rfl rfl) ?_
    refine TL.does (some 14) rfl rfl rfl (Does.alloc ze61 rfl) ?_
    rintro _ _ ⟨b14, rfl, rfl⟩
    refine TL.does none rfl rfl rfl (Does.store (i := 0) rfl rfl rfl sz61 rfl rfl (by first | exact Nat.le_of_ble_eq_true rfl | decide | omega) rfl rfl) ?_
    rintro _ _ ⟨rfl, rfl⟩
    refine TL.val rfl rfl (Nat.le_of_ble_eq_true rfl) (Val.assign rfl) ?_
    refine TL.nil ?_
    refine AtX.then ?_
    refine TC.env (E' := [(0, _), (1, _), (2, _), (3, _), (5, _), (6, _), (8, _), (10, _), (11, _), (13, _), (15, _)]) (Sub.cons rfl (Sub.cons rfl (Sub.cons rfl (Sub.cons rfl (Sub.cons rfl (Sub.cons rfl (Sub.cons rfl (Sub.cons rfl (Sub.cons rfl (Sub.cons rfl (Sub.cons rfl (Sub.nil _)))))))))))) ?_
    refine TC.seq ?_
    refine TC.heap (M' := gateO gb cfD rb (some ⟨nb, 0, none⟩) 4 cn (some ⟨ob, 0, none⟩) 4 co 4 :: ringO rb cfD.seed lb 4 cfD.grace 4 :: (lb, row 161 (([⟨0, 0⟩, ⟨0, 0⟩, ⟨0, 0⟩, ⟨0, 0⟩] : List On).flatMap On.cs)) :: (nb, row 118 (([n0, n1, n2, n3] : List Nat).map pp ++ sn)) :: (ob, row 118 (([o0, o1, o2, o3] : List Nat).map pp ++ so)) :: ((b5_, .cells #[.int .i64 1, .int .i64 2, .int .i64 0, .int .i64 1, .int .i64 1, .int .i64 9, .int .i64 0] 61 (0, 0)) :: (bE, row 5 (bv (sealB (macKey 1 2 0) ⟨1, (2 : Nat), 0, 1, 1, 9, 0⟩) ++ spE)) :: sobj sb 1 2 0 1 :: repO n0 cfD.window 0 0 0 :: repO n1 cfD.window 0 0 0 :: repO n2 cfD.window 1 (nextB cfD.window 0) 0 :: repO n3 cfD.window 0 0 0 :: repO o0 cfD.window 0 0 0 :: repO o1 cfD.window 0 0 0 :: repO o2 cfD.window 0 0 0 :: repO o3 cfD.window 0 0 0 :: M)) (fun w h => h.drop) ?_
    refine TC.region ?_
    refine TL.does (some 70) rfl rfl rfl (Does.buildSlice0 sl37 sz5) ?_
    rintro _ _ ⟨b90, rfl, rfl⟩
    refine TL.val rfl rfl (Nat.le_of_ble_eq_true rfl) (Val.move rfl) ?_
    refine TL.does (some 72) rfl rfl rfl (Does.appendS (xs := []) (ys := bv (sealB (macKey 1 2 0) ⟨1, (2 : Nat), 0, 1, 1, 9, 0⟩)) (n := 0) (some (b90, 0, [])) _ ro_refl rfl rfl sl37 sz5 by5 ze5 rfl ⟨rfl, rfl⟩ (srcB us37 (rd_all (i := 7) (sp := spE) rfl)) (by simp) (bv_one _) (by omega) (by omega)) ?_
    rintro _ _ ⟨σK, rfl, hokK, rfl⟩
    obtain ⟨bK, cK, spK, rfl, hcK⟩ := hokK.some (by omega)
    rw [List.nil_append] at hcK ⊢
    have hcK2 : 48 + spK.length = cK := by simpa using hcK
    refine TL.val rfl rfl (Nat.le_of_ble_eq_true rfl) (Val.assign rfl) ?_
    refine TL.nil ?_
    refine AtX.then ?_
    refine TC.env (E' := [(0, _), (1, _), (2, _), (5, _), (6, _), (8, _), (10, _), (11, _), (13, _), (15, _), (16, _)]) (Sub.cons rfl (Sub.cons rfl (Sub.cons rfl (Sub.cons rfl (Sub.cons rfl (Sub.cons rfl (Sub.cons rfl (Sub.cons rfl (Sub.cons rfl (Sub.cons rfl (Sub.cons rfl (Sub.nil _)))))))))))) ?_
    refine TC.seq ?_
    refine TC.seq ?_
    refine TC.heap (M' := gateO gb cfD rb (some ⟨nb, 0, none⟩) 4 cn (some ⟨ob, 0, none⟩) 4 co 4 :: ringO rb cfD.seed lb 4 cfD.grace 4 :: (lb, row 161 (([⟨0, 0⟩, ⟨0, 0⟩, ⟨0, 0⟩, ⟨0, 0⟩] : List On).flatMap On.cs)) :: (nb, row 118 (([n0, n1, n2, n3] : List Nat).map pp ++ sn)) :: (ob, row 118 (([o0, o1, o2, o3] : List Nat).map pp ++ so)) :: ((bK, row 5 (bv (sealB (macKey 1 2 0) ⟨1, (2 : Nat), 0, 1, 1, 9, 0⟩) ++ spK)) :: (b5_, .cells #[.int .i64 1, .int .i64 2, .int .i64 0, .int .i64 1, .int .i64 1, .int .i64 9, .int .i64 0] 61 (0, 0)) :: (bE, row 5 (bv (sealB (macKey 1 2 0) ⟨1, (2 : Nat), 0, 1, 1, 9, 0⟩) ++ spE)) :: sobj sb 1 2 0 1 :: repO n0 cfD.window 0 0 0 :: repO n1 cfD.window 0 0 0 :: repO n2 cfD.window 1 (nextB cfD.window 0) 0 :: repO n3 cfD.window 0 0 0 :: repO o0 cfD.window 0 0 0 :: repO o1 cfD.window 0 0 0 :: repO o2 cfD.window 0 0 0 :: repO o3 cfD.window 0 0 0 :: M)) (fun w h => ro_mv (A := [_]) (L := [_, _, _, _, _]) w h) ?_
    refine TC.region ?_
    refine TL.val rfl rfl (Nat.le_of_ble_eq_true rfl) (Val.move rfl) ?_
    refine TL.val rfl rfl (Nat.le_of_ble_eq_true rfl) (Val.lenSl rfl rfl sl37) ?_
    refine TL.val rfl rfl (Nat.le_of_ble_eq_true rfl) (Val.neqI rfl rfl) ?_
    refine TL.nil ?_
    refine AtX.then ?_
    refine TC.env (E' := [(0, _), (1, _), (2, _), (5, _), (6, _), (8, _), (10, _), (11, _), (13, _), (15, _), (16, _), (75, _)]) (Sub.cons rfl (Sub.cons rfl (Sub.cons rfl (Sub.cons rfl (Sub.cons rfl (Sub.cons rfl (Sub.cons rfl (Sub.cons rfl (Sub.cons rfl (Sub.cons rfl (Sub.cons rfl (Sub.cons rfl (Sub.nil _))))))))))))) ?_
    first | refine TC.condP rfl (fun c2 => ?_) (fun c2 => ?_) | refine TC.condN rfl (fun c2 => ?_) (fun c2 => ?_) | refine TC.condB rfl (fun c2 => ?_) (fun c2 => ?_) | refine TC.cond rfl (fun c2 => ?_) (fun c2 => ?_)
    · skip
      exact absurd rfl c2
    · skip
      refine TC.env (E' := [(0, _), (1, _), (2, _), (5, _), (6, _), (8, _), (10, _), (11, _), (13, _), (15, _), (16, _)]) (Sub.cons rfl (Sub.cons rfl (Sub.cons rfl (Sub.cons rfl (Sub.cons rfl (Sub.cons rfl (Sub.cons rfl (Sub.cons rfl (Sub.cons rfl (Sub.cons rfl (Sub.cons rfl (Sub.nil _)))))))))))) ?_
      refine TC.skip ?_
      refine AtX.then ?_
      refine TC.env (E' := [(0, _), (1, _), (2, _), (5, _), (6, _), (8, _), (10, _), (11, _), (13, _), (15, _), (16, _)]) (Sub.cons rfl (Sub.cons rfl (Sub.cons rfl (Sub.cons rfl (Sub.cons rfl (Sub.cons rfl (Sub.cons rfl (Sub.cons rfl (Sub.cons rfl (Sub.cons rfl (Sub.cons rfl (Sub.nil _)))))))))))) ?_
      refine TC.seq ?_
      refine TC.region ?_
      refine TL.val rfl rfl (Nat.le_of_ble_eq_true rfl) (Val.move rfl) ?_
      refine TL.val rfl rfl (Nat.le_of_ble_eq_true rfl) (Val.move rfl) ?_
      refine TL.val rfl rfl (Nat.le_of_ble_eq_true rfl) (Val.indexAddr (i := 40) rfl rfl sl37 sz5 rfl (by decide) rfl) ?_
      refine TL.val rfl rfl (Nat.le_of_ble_eq_true rfl) (Val.loadB 40 rfl ag5 (rd_allR (i := 5) (l := sealB (macKey 1 2 0) ⟨1, (2 : Nat), 0, 1, 1, 9, 0⟩) (sp := spK) rfl) rfl (by simp)) ?_
      refine TL.val rfl rfl (Nat.le_of_ble_eq_true rfl) (Val.xor rfl rfl (r := (((sealB (macKey 1 2 0) ⟨1, (2 : Nat), 0, 1, 1, 9, 0⟩).getD 40 0 ^^^ 1).toNat : Int)) (xor8 _ 1)) ?_
      refine TL.val rfl rfl (Nat.le_of_ble_eq_true rfl) (Val.indexAddr (i := 40) rfl rfl sl37 sz5 rfl (by decide) rfl) ?_
      refine TL.does none rfl rfl rfl (Does.storeB (c := ((sealB (macKey 1 2 0) ⟨1, (2 : Nat), 0, 1, 1, 9, 0⟩).getD 40 0 ^^^ 1)) rfl rfl (i := 5) rfl rfl (by simp) sz5) ?_
      rintro _ _ ⟨rfl, rfl⟩
      refine TL.nil ?_
      refine AtX.then ?_
      refine TC.env (E' := [(0, _), (1, _), (2, _), (5, _), (6, _), (8, _), (10, _), (11, _), (13, _), (15, _), (16, _)]) (Sub.cons rfl (Sub.cons rfl (Sub.cons rfl (Sub.cons rfl (Sub.cons rfl (Sub.cons rfl (Sub.cons rfl (Sub.cons rfl (Sub.cons rfl (Sub.cons rfl (Sub.cons rfl (Sub.nil _)))))))))))) ?_
      refine TC.seq ?_
      refine TC.heap (M' := gateO gb cfD rb (some ⟨nb, 0, none⟩) 4 cn (some ⟨ob, 0, none⟩) 4 co 4 :: ringO rb cfD.seed lb 4 cfD.grace 4 :: (lb, row 161 (([⟨0, 0⟩, ⟨0, 0⟩, ⟨0, 0⟩, ⟨0, 0⟩] : List On).flatMap On.cs)) :: (nb, row 118 (([n0, n1, n2, n3] : List Nat).map pp ++ sn)) :: (ob, row 118 (([o0, o1, o2, o3] : List Nat).map pp ++ so)) :: ((bK, row 5 (bv ((sealB (macKey 1 2 0) ⟨1, (2 : Nat), 0, 1, 1, 9, 0⟩).set 40 ((sealB (macKey 1 2 0) ⟨1, (2 : Nat), 0, 1, 1, 9, 0⟩).getD 40 0 ^^^ 1)) ++ spK)) :: (b5_, .cells #[.int .i64 1, .int .i64 2, .int .i64 0, .int .i64 1, .int .i64 1, .int .i64 9, .int .i64 0] 61 (0, 0)) :: (bE, row 5 (bv (sealB (macKey 1 2 0) ⟨1, (2 : Nat), 0, 1, 1, 9, 0⟩) ++ spE)) :: sobj sb 1 2 0 1 :: repO n0 cfD.window 0 0 0 :: repO n1 cfD.window 0 0 0 :: repO n2 cfD.window 1 (nextB cfD.window 0) 0 :: repO n3 cfD.window 0 0 0 :: repO o0 cfD.window 0 0 0 :: repO o1 cfD.window 0 0 0 :: repO o2 cfD.window 0 0 0 :: repO o3 cfD.window 0 0 0 :: M)) (fun w h => h) ?_
      have hK : RdS ((bK, row 5 (bv ((sealB (macKey 1 2 0) ⟨1, (2 : Nat), 0, 1, 1, 9, 0⟩).set 40 ((sealB (macKey 1 2 0) ⟨1, (2 : Nat), 0, 1, 1, 9, 0⟩).getD 40 0 ^^^ 1)) ++ spK)) :: (b5_, .cells #[.int .i64 1, .int .i64 2, .int .i64 0, .int .i64 1, .int .i64 1, .int .i64 9, .int .i64 0] 61 (0, 0)) :: (bE, row 5 (bv (sealB (macKey 1 2 0) ⟨1, (2 : Nat), 0, 1, 1, 9, 0⟩) ++ spE)) :: sobj sb 1 2 0 1 :: repO n0 cfD.window 0 0 0 :: repO n1 cfD.window 0 0 0 :: repO n2 cfD.window 1 (nextB cfD.window 0) 0 :: repO n3 cfD.window 0 0 0 :: repO o0 cfD.window 0 0 0 :: repO o1 cfD.window 0 0 0 :: repO o2 cfD.window 0 0 0 :: repO o3 cfD.window 0 0 0 :: M) (some ⟨bK, 0, none⟩) (bv (putM ⟨1, (2 : Nat), 0, 1, 1, 9, 0⟩ ++ (tagB (tagOf (macKey 1 2 0) (putM ⟨1, (2 : Nat), 0, 1, 1, 9, 0⟩))).set 8 ((sealB (macKey 1 2 0) ⟨1, (2 : Nat), 0, 1, 1, 9, 0⟩).getD 40 0 ^^^ 1))) := by have h : RdS ((bK, row 5 (bv ((sealB (macKey 1 2 0) ⟨1, (2 : Nat), 0, 1, 1, 9, 0⟩).set 40 ((sealB (macKey 1 2 0) ⟨1, (2 : Nat), 0, 1, 1, 9, 0⟩).getD 40 0 ^^^ 1)) ++ spK)) :: (b5_, .cells #[.int .i64 1, .int .i64 2, .int .i64 0, .int .i64 1, .int .i64 1, .int .i64 9, .int .i64 0] 61 (0, 0)) :: (bE, row 5 (bv (sealB (macKey 1 2 0) ⟨1, (2 : Nat), 0, 1, 1, 9, 0⟩) ++ spE)) :: sobj sb 1 2 0 1 :: repO n0 cfD.window 0 0 0 :: repO n1 cfD.window 0 0 0 :: repO n2 cfD.window 1 (nextB cfD.window 0) 0 :: repO n3 cfD.window 0 0 0 :: repO o0 cfD.window 0 0 0 :: repO o1 cfD.window 0 0 0 :: repO o2 cfD.window 0 0 0 :: repO o3 cfD.window 0 0 0 :: M) (some ⟨bK, 0, none⟩) (bv ((sealB (macKey 1 2 0) ⟨1, (2 : Nat), 0, 1, 1, 9, 0⟩).set 40 ((sealB (macKey 1 2 0) ⟨1, (2 : Nat), 0, 1, 1, 9, 0⟩).getD 40 0 ^^^ 1))) := rd_all (i := 0) (sp := spK) rfl; rw [set_40] at h; exact h
      refine TC.region ?_
      refine TL.val rfl rfl (Nat.le_of_ble_eq_true rfl) (Val.move rfl) ?_
      refine TL.val rfl rfl (Nat.le_of_ble_eq_true rfl) (Val.move rfl) ?_
      refine TL.does (some 85) rfl rfl rfl (Does.callF go32 rfl ((Check_nil gb rb lb nb cn ob co sn so cfD 4 4 4 ([⟨0, 0⟩, ⟨0, 0⟩, ⟨0, 0⟩, ⟨0, 0⟩] : List On) ([n0, n1, n2, n3] : List Nat) ([o0, o1, o2, o3] : List Nat) ((bK, row 5 (bv ((sealB (macKey 1 2 0) ⟨1, (2 : Nat), 0, 1, 1, 9, 0⟩).set 40 ((sealB (macKey 1 2 0) ⟨1, (2 : Nat), 0, 1, 1, 9, 0⟩).getD 40 0 ^^^ 1)) ++ spK)) :: (b5_, .cells #[.int .i64 1, .int .i64 2, .int .i64 0, .int .i64 1, .int .i64 1, .int .i64 9, .int .i64 0] 61 (0, 0)) :: (bE, row 5 (bv (sealB (macKey 1 2 0) ⟨1, (2 : Nat), 0, 1, 1, 9, 0⟩) ++ spE)) :: sobj sb 1 2 0 1 :: repO n0 cfD.window 0 0 0 :: repO n1 cfD.window 0 0 0 :: repO n2 cfD.window 1 (nextB cfD.window 0) 0 :: repO n3 cfD.window 0 0 0 :: repO o0 cfD.window 0 0 0 :: repO o1 cfD.window 0 0 0 :: repO o2 cfD.window 0 0 0 :: repO o3 cfD.window 0 0 0 :: M) rfl rfl rfl rfl ⟨by decide, by decide⟩ ⟨by decide, by decide⟩ 2 ⟨0, 0⟩ rfl ⟨by decide, by decide⟩ ⟨by decide, by decide⟩ 1 0 1 1 9 0 ⟨by decide, by decide⟩ (by decide) 0 okD n2 o2 rfl rfl 6 1 (nextB cfD.window 0) 0 ⟨by decide, by decide⟩ rfl ⟨by decide, by decide⟩ (by decide) ⟨by decide, by decide⟩ ((tagB (tagOf (macKey 1 2 0) (putM ⟨1, (2 : Nat), 0, 1, 1, 9, 0⟩))).set 8 ((sealB (macKey 1 2 0) ⟨1, (2 : Nat), 0, 1, 1, 9, 0⟩).getD 40 0 ^^^ 1)) (some ⟨bK, 0, none⟩) cK hK (by omega) (by simp)).mono (fun v M' h => h.elim (fun h => absurd (h.1.symm.trans (chk5 rfl (decide_eq_false (same_no (tagOf_bd (macKey 1 2 0) (putM ⟨1, (2 : Nat), 0, 1, 1, 9, 0⟩)).1 (tagOf_bd (macKey 1 2 0) (putM ⟨1, (2 : Nat), 0, 1, 1, 9, 0⟩)).2 (turned_ne _ _))))) (by decide)) (fun h => And.intro (h.2.1.trans (congrArg (fun q => Value.tuple #[.agg #[.int .i64 0, .int .i64 0, .int .i64 0, .int .i64 0, .int .i64 0, .int .i64 0, .int .i64 0], .int .i64 q]) (chk5 rfl (decide_eq_false (same_no (tagOf_bd (macKey 1 2 0) (putM ⟨1, (2 : Nat), 0, 1, 1, 9, 0⟩)).1 (tagOf_bd (macKey 1 2 0) (putM ⟨1, (2 : Nat), 0, 1, 1, 9, 0⟩)).2 (turned_ne _ _)))))) h.2.2)))) ?_
      rintro _ _ ⟨rfl, rfl⟩
      refine TL.val rfl rfl (Nat.le_of_ble_eq_true rfl) (Val.move rfl) ?_
      refine TL.val rfl rfl (Nat.le_of_ble_eq_true rfl) (Val.extract rfl rfl) ?_
      refine TL.val rfl rfl (Nat.le_of_ble_eq_true rfl) (Val.extract rfl rfl) ?_
      refine TL.does (some 17) rfl rfl rfl (Does.alloc ze61 rfl) ?_
      rintro _ _ ⟨b16, rfl, rfl⟩
      refine TL.does none rfl rfl rfl (Does.store (i := 0) rfl rfl rfl sz61 rfl rfl (by first | exact Nat.le_of_ble_eq_true rfl | decide | omega) rfl rfl) ?_
      rintro _ _ ⟨rfl, rfl⟩
      refine TL.val rfl rfl (Nat.le_of_ble_eq_true rfl) (Val.assign rfl) ?_
      refine TL.nil ?_
      refine AtX.then ?_
      refine TC.env (E' := [(0, _), (1, _), (2, _), (5, _), (6, _), (8, _), (10, _), (11, _), (13, _), (15, _), (18, _)]) (Sub.cons rfl (Sub.cons rfl (Sub.cons rfl (Sub.cons rfl (Sub.cons rfl (Sub.cons rfl (Sub.cons rfl (Sub.cons rfl (Sub.cons rfl (Sub.cons rfl (Sub.cons rfl (Sub.nil _)))))))))))) ?_
      refine TC.seq ?_
      refine TC.heap (M' := gateO gb cfD rb (some ⟨nb, 0, none⟩) 4 cn (some ⟨ob, 0, none⟩) 4 co 5 :: ringO rb cfD.seed lb 4 cfD.grace 5 :: (lb, row 161 (([⟨0, 0⟩, ⟨0, 0⟩, ⟨0, 0⟩, ⟨0, 0⟩] : List On).flatMap On.cs)) :: (nb, row 118 (([n0, n1, n2, n3] : List Nat).map pp ++ sn)) :: (ob, row 118 (([o0, o1, o2, o3] : List Nat).map pp ++ so)) :: ((bK, row 5 (bv ((sealB (macKey 1 2 0) ⟨1, (2 : Nat), 0, 1, 1, 9, 0⟩).set 40 ((sealB (macKey 1 2 0) ⟨1, (2 : Nat), 0, 1, 1, 9, 0⟩).getD 40 0 ^^^ 1)) ++ spK)) :: (b5_, .cells #[.int .i64 1, .int .i64 2, .int .i64 0, .int .i64 1, .int .i64 1, .int .i64 9, .int .i64 0] 61 (0, 0)) :: (bE, row 5 (bv (sealB (macKey 1 2 0) ⟨1, (2 : Nat), 0, 1, 1, 9, 0⟩) ++ spE)) :: sobj sb 1 2 0 1 :: repO n0 cfD.window 0 0 0 :: repO n1 cfD.window 0 0 0 :: repO n2 cfD.window 1 (nextB cfD.window 0) 0 :: repO n3 cfD.window 0 0 0 :: repO o0 cfD.window 0 0 0 :: repO o1 cfD.window 0 0 0 :: repO o2 cfD.window 0 0 0 :: repO o3 cfD.window 0 0 0 :: M)) (fun w h => h.drop) ?_
      refine TC.region ?_
      refine TL.val rfl rfl (Nat.le_of_ble_eq_true rfl) (Val.move rfl) ?_
      refine TL.does (some 90) rfl rfl rfl (Does.callF go34 rfl (sRotate_fn sb 8 1 2 0 1 1 _ rfl (by decide))) ?_
      rintro _ _ ⟨bR, cR, spR, rfl, hcR, rfl⟩
      refine TL.heap (M' := gateO gb cfD rb (some ⟨nb, 0, none⟩) 4 cn (some ⟨ob, 0, none⟩) 4 co 5 :: ringO rb cfD.seed lb 4 cfD.grace 5 :: (lb, row 161 (([⟨0, 0⟩, ⟨0, 0⟩, ⟨0, 0⟩, ⟨0, 0⟩] : List On).flatMap On.cs)) :: (nb, row 118 (([n0, n1, n2, n3] : List Nat).map pp ++ sn)) :: (ob, row 118 (([o0, o1, o2, o3] : List Nat).map pp ++ so)) :: ((bR, row 5 (bv (sealB (macKey 1 2 0) ⟨2, (2 : Nat), 1, 2, 1, 0, 0⟩) ++ spR)) :: (bK, row 5 (bv ((sealB (macKey 1 2 0) ⟨1, (2 : Nat), 0, 1, 1, 9, 0⟩).set 40 ((sealB (macKey 1 2 0) ⟨1, (2 : Nat), 0, 1, 1, 9, 0⟩).getD 40 0 ^^^ 1)) ++ spK)) :: (b5_, .cells #[.int .i64 1, .int .i64 2, .int .i64 0, .int .i64 1, .int .i64 1, .int .i64 9, .int .i64 0] 61 (0, 0)) :: (bE, row 5 (bv (sealB (macKey 1 2 0) ⟨1, (2 : Nat), 0, 1, 1, 9, 0⟩) ++ spE)) :: sobj sb 1 2 1 0 :: repO n0 cfD.window 0 0 0 :: repO n1 cfD.window 0 0 0 :: repO n2 cfD.window 1 (nextB cfD.window 0) 0 :: repO n3 cfD.window 0 0 0 :: repO o0 cfD.window 0 0 0 :: repO o1 cfD.window 0 0 0 :: repO o2 cfD.window 0 0 0 :: repO o3 cfD.window 0 0 0 :: M)) (fun w h => ro_mv (A := [_]) (L := [_, _, _, _, _]) w h) ?_
      refine TL.val rfl rfl (Nat.le_of_ble_eq_true rfl) (Val.move rfl) ?_
      refine TL.val rfl rfl (Nat.le_of_ble_eq_true rfl) (Val.extract rfl rfl) ?_
      refine TL.val rfl rfl (Nat.le_of_ble_eq_true rfl) (Val.extract rfl rfl) ?_
      refine TL.val rfl rfl (Nat.le_of_ble_eq_true rfl) (Val.assign rfl) ?_
      refine TL.val rfl rfl (Nat.le_of_ble_eq_true rfl) (Val.assign rfl) ?_
      refine TL.nil ?_
      refine AtX.then ?_
      refine TC.env (E' := [(0, _), (1, _), (5, _), (6, _), (8, _), (10, _), (11, _), (13, _), (15, _), (18, _), (19, _)]) (Sub.cons rfl (Sub.cons rfl (Sub.cons rfl (Sub.cons rfl (Sub.cons rfl (Sub.cons rfl (Sub.cons rfl (Sub.cons rfl (Sub.cons rfl (Sub.cons rfl (Sub.cons rfl (Sub.nil _)))))))))))) ?_
      refine TC.seq ?_
      refine TC.region ?_
      refine TL.val rfl rfl (Nat.le_of_ble_eq_true rfl) (Val.move rfl) ?_
      refine TL.val rfl rfl (Nat.le_of_ble_eq_true rfl) (Val.move rfl) ?_
      refine TL.does (some 96) rfl rfl rfl (Does.callF go32 rfl ((Check_nil gb rb lb nb cn ob co sn so cfD 4 5 5 ([⟨0, 0⟩, ⟨0, 0⟩, ⟨0, 0⟩, ⟨0, 0⟩] : List On) ([n0, n1, n2, n3] : List Nat) ([o0, o1, o2, o3] : List Nat) ((bR, row 5 (bv (sealB (macKey 1 2 0) ⟨2, (2 : Nat), 1, 2, 1, 0, 0⟩) ++ spR)) :: (bK, row 5 (bv ((sealB (macKey 1 2 0) ⟨1, (2 : Nat), 0, 1, 1, 9, 0⟩).set 40 ((sealB (macKey 1 2 0) ⟨1, (2 : Nat), 0, 1, 1, 9, 0⟩).getD 40 0 ^^^ 1)) ++ spK)) :: (b5_, .cells #[.int .i64 1, .int .i64 2, .int .i64 0, .int .i64 1, .int .i64 1, .int .i64 9, .int .i64 0] 61 (0, 0)) :: (bE, row 5 (bv (sealB (macKey 1 2 0) ⟨1, (2 : Nat), 0, 1, 1, 9, 0⟩) ++ spE)) :: sobj sb 1 2 1 0 :: repO n0 cfD.window 0 0 0 :: repO n1 cfD.window 0 0 0 :: repO n2 cfD.window 1 (nextB cfD.window 0) 0 :: repO n3 cfD.window 0 0 0 :: repO o0 cfD.window 0 0 0 :: repO o1 cfD.window 0 0 0 :: repO o2 cfD.window 0 0 0 :: repO o3 cfD.window 0 0 0 :: M) rfl rfl rfl rfl ⟨by decide, by decide⟩ ⟨by decide, by decide⟩ 2 ⟨0, 0⟩ rfl ⟨by decide, by decide⟩ ⟨by decide, by decide⟩ 2 1 2 1 0 0 ⟨by decide, by decide⟩ (by decide) 0 okD n2 o2 rfl rfl 7 1 (nextB cfD.window 0) 0 ⟨by decide, by decide⟩ rfl ⟨by decide, by decide⟩ (by decide) ⟨by decide, by decide⟩ (tagB (tagOf (macKey 1 2 0) (putM ⟨2, (2 : Nat), 1, 2, 1, 0, 0⟩))) (some ⟨bR, 0, none⟩) cR (rd_all (i := 0) (sp := spR) rfl) (by omega) (by simp)).mono (fun v M' h => h.elim (fun h => And.intro h.2.1 h.2.2) (fun h => False.elim (h.1 (chk0 rfl (decide_eq_true (same_yes (tagOf_bd (macKey 1 2 0) (putM ⟨2, (2 : Nat), 1, 2, 1, 0, 0⟩)).1 (tagOf_bd (macKey 1 2 0) (putM ⟨2, (2 : Nat), 1, 2, 1, 0, 0⟩)).2)) (by decide +kernel) (by decide) (by decide))))))) ?_
      rintro _ _ ⟨rfl, rfl⟩
      refine TL.val rfl rfl (Nat.le_of_ble_eq_true rfl) (Val.move rfl) ?_
      refine TL.val rfl rfl (Nat.le_of_ble_eq_true rfl) (Val.extract rfl rfl) ?_
      refine TL.val rfl rfl (Nat.le_of_ble_eq_true rfl) (Val.extract rfl rfl) ?_
      refine TL.does (some 21) rfl rfl rfl (Does.alloc ze61 rfl) ?_
      rintro _ _ ⟨b21, rfl, rfl⟩
      refine TL.does none rfl rfl rfl (Does.store (i := 0) rfl rfl rfl sz61 rfl rfl (by first | exact Nat.le_of_ble_eq_true rfl | decide | omega) rfl rfl) ?_
      rintro _ _ ⟨rfl, rfl⟩
      refine TL.val rfl rfl (Nat.le_of_ble_eq_true rfl) (Val.assign rfl) ?_
      refine TL.nil ?_
      refine AtX.then ?_
      refine TC.env (E' := [(0, _), (1, _), (5, _), (6, _), (8, _), (10, _), (11, _), (13, _), (15, _), (18, _), (21, _), (22, _)]) (Sub.cons rfl (Sub.cons rfl (Sub.cons rfl (Sub.cons rfl (Sub.cons rfl (Sub.cons rfl (Sub.cons rfl (Sub.cons rfl (Sub.cons rfl (Sub.cons rfl (Sub.cons rfl (Sub.cons rfl (Sub.nil _))))))))))))) ?_
      refine TC.seq ?_
      refine TC.heap (M' := gateO gb cfD rb (some ⟨nb, 0, none⟩) 4 cn (some ⟨ob, 0, none⟩) 4 co 5 :: ringO rb cfD.seed lb 4 cfD.grace 6 :: (lb, row 161 (([⟨0, 0⟩, ⟨0, 0⟩, ⟨0, 0⟩, ⟨0, 0⟩] : List On).flatMap On.cs)) :: (nb, row 118 (([n0, n1, n2, n3] : List Nat).map pp ++ sn)) :: (ob, row 118 (([o0, o1, o2, o3] : List Nat).map pp ++ so)) :: ((b21, .cells #[.int .i64 2, .int .i64 2, .int .i64 1, .int .i64 2, .int .i64 1, .int .i64 0, .int .i64 0] 61 (0, 0)) :: (bR, row 5 (bv (sealB (macKey 1 2 0) ⟨2, (2 : Nat), 1, 2, 1, 0, 0⟩) ++ spR)) :: (bK, row 5 (bv ((sealB (macKey 1 2 0) ⟨1, (2 : Nat), 0, 1, 1, 9, 0⟩).set 40 ((sealB (macKey 1 2 0) ⟨1, (2 : Nat), 0, 1, 1, 9, 0⟩).getD 40 0 ^^^ 1)) ++ spK)) :: (b5_, .cells #[.int .i64 1, .int .i64 2, .int .i64 0, .int .i64 1, .int .i64 1, .int .i64 9, .int .i64 0] 61 (0, 0)) :: (bE, row 5 (bv (sealB (macKey 1 2 0) ⟨1, (2 : Nat), 0, 1, 1, 9, 0⟩) ++ spE)) :: sobj sb 1 2 1 0 :: repO n0 cfD.window 0 0 0 :: repO n1 cfD.window 0 0 0 :: repO n2 cfD.window 1 (nextB cfD.window 0) 0 :: repO n3 cfD.window 0 0 0 :: repO o0 cfD.window 0 0 0 :: repO o1 cfD.window 0 0 0 :: repO o2 cfD.window 0 0 0 :: repO o3 cfD.window 0 0 0 :: M)) (fun w h => ro_mv (A := [_]) (L := [_, _, _, _, _]) w h) ?_
      refine TC.region ?_
      refine TL.val rfl rfl (Nat.le_of_ble_eq_true rfl) (Val.move rfl) ?_
      refine TL.val rfl rfl (Nat.le_of_ble_eq_true rfl) (Val.loadAgg 5 rfl ag61 sz61 rfl rfl rfl) ?_
      refine TL.does (some 101) rfl rfl rfl (Does.callF go33 rfl (Take_r gb rb lb nb cn ob co sn so cfD 4 6 5 ([⟨0, 0⟩, ⟨0, 0⟩, ⟨0, 0⟩, ⟨0, 0⟩] : List On) ([n0, n1, n2, n3] : List Nat) ([o0, o1, o2, o3] : List Nat) ((b21, .cells #[.int .i64 2, .int .i64 2, .int .i64 1, .int .i64 2, .int .i64 1, .int .i64 0, .int .i64 0] 61 (0, 0)) :: (bR, row 5 (bv (sealB (macKey 1 2 0) ⟨2, (2 : Nat), 1, 2, 1, 0, 0⟩) ++ spR)) :: (bK, row 5 (bv ((sealB (macKey 1 2 0) ⟨1, (2 : Nat), 0, 1, 1, 9, 0⟩).set 40 ((sealB (macKey 1 2 0) ⟨1, (2 : Nat), 0, 1, 1, 9, 0⟩).getD 40 0 ^^^ 1)) ++ spK)) :: (b5_, .cells #[.int .i64 1, .int .i64 2, .int .i64 0, .int .i64 1, .int .i64 1, .int .i64 9, .int .i64 0] 61 (0, 0)) :: (bE, row 5 (bv (sealB (macKey 1 2 0) ⟨1, (2 : Nat), 0, 1, 1, 9, 0⟩) ++ spE)) :: sobj sb 1 2 1 0 :: repO n0 cfD.window 0 0 0 :: repO n1 cfD.window 0 0 0 :: repO n2 cfD.window 1 (nextB cfD.window 0) 0 :: repO n3 cfD.window 0 0 0 :: repO o0 cfD.window 0 0 0 :: repO o1 cfD.window 0 0 0 :: repO o2 cfD.window 0 0 0 :: repO o3 cfD.window 0 0 0 :: M) rfl rfl rfl rfl ⟨by decide, by decide⟩ ⟨by decide, by decide⟩ 2 ⟨0, 0⟩ rfl ⟨by decide, by decide⟩ ⟨by decide, by decide⟩ 2 1 2 1 0 0 ⟨by decide, by decide⟩ (by decide) 0 okD n2 o2 rfl rfl 8 1 (nextB cfD.window 0) 0 ⟨by decide, by decide⟩ rfl ⟨by decide, by decide⟩ (by decide) rfl rfl rfl (by decide +kernel))) ?_
      rintro _ _ ⟨pn, rfl, rfl⟩
      refine TL.val rfl rfl (Nat.le_of_ble_eq_true rfl) (Val.assign rfl) ?_
      refine TL.nil ?_
      refine AtX.then ?_
      refine TC.env (E' := [(0, _), (1, _), (5, _), (6, _), (8, _), (10, _), (11, _), (13, _), (15, _), (18, _), (21, _), (22, _), (23, _)]) (Sub.cons rfl (Sub.cons rfl (Sub.cons rfl (Sub.cons rfl (Sub.cons rfl (Sub.cons rfl (Sub.cons rfl (Sub.cons rfl (Sub.cons rfl (Sub.cons rfl (Sub.cons rfl (Sub.cons rfl (Sub.cons rfl (Sub.nil _)))))))))))))) ?_
      refine TC.seq ?_
      refine TC.heap (M' := gateO gb cfD rb (some ⟨nb, 0, none⟩) 4 cn (some ⟨ob, 0, none⟩) 4 co 5 :: ringO rb cfD.seed lb 4 cfD.grace 7 :: (lb, row 161 (([⟨0, 0⟩, ⟨0, 0⟩, ⟨1, 0⟩, ⟨0, 0⟩] : List On).flatMap On.cs)) :: (nb, row 118 (([n0, n1, pn, n3] : List Nat).map pp ++ sn)) :: (ob, row 118 (([o0, o1, n2, o3] : List Nat).map pp ++ so)) :: (repO pn cfD.window 0 0 0 :: (b21, .cells #[.int .i64 2, .int .i64 2, .int .i64 1, .int .i64 2, .int .i64 1, .int .i64 0, .int .i64 0] 61 (0, 0)) :: (bR, row 5 (bv (sealB (macKey 1 2 0) ⟨2, (2 : Nat), 1, 2, 1, 0, 0⟩) ++ spR)) :: (bK, row 5 (bv ((sealB (macKey 1 2 0) ⟨1, (2 : Nat), 0, 1, 1, 9, 0⟩).set 40 ((sealB (macKey 1 2 0) ⟨1, (2 : Nat), 0, 1, 1, 9, 0⟩).getD 40 0 ^^^ 1)) ++ spK)) :: (b5_, .cells #[.int .i64 1, .int .i64 2, .int .i64 0, .int .i64 1, .int .i64 1, .int .i64 9, .int .i64 0] 61 (0, 0)) :: (bE, row 5 (bv (sealB (macKey 1 2 0) ⟨1, (2 : Nat), 0, 1, 1, 9, 0⟩) ++ spE)) :: sobj sb 1 2 1 0 :: repO n0 cfD.window 0 0 0 :: repO n1 cfD.window 0 0 0 :: repO n2 cfD.window 2 (nextB cfD.window (nextB cfD.window 0)) 0 :: repO n3 cfD.window 0 0 0 :: repO o0 cfD.window 0 0 0 :: repO o1 cfD.window 0 0 0 :: repO o2 cfD.window 0 0 0 :: repO o3 cfD.window 0 0 0 :: M)) (fun w h => h) ?_
      refine TC.region ?_
      refine TL.val rfl rfl (Nat.le_of_ble_eq_true rfl) (Val.move rfl) ?_
      refine TL.val rfl rfl (Nat.le_of_ble_eq_true rfl) (Val.same (v' := .bool true) (Val.eqlI rfl rfl) (rfl)) ?_
      refine TL.val rfl rfl (Nat.le_of_ble_eq_true rfl) (Val.move rfl) ?_
      refine TL.valYes rfl rfl (Nat.le_of_ble_eq_true rfl) rfl (Nat.le_of_ble_eq_true rfl) rfl (Val.fieldAddr rfl fl61_5 sz2 rfl) ?_
      refine TL.valYes rfl rfl (Nat.le_of_ble_eq_true rfl) rfl (Nat.le_of_ble_eq_true rfl) rfl (Val.load 9 rfl ag2 rfl rfl) ?_
      refine TL.valYes rfl rfl (Nat.le_of_ble_eq_true rfl) rfl (Nat.le_of_ble_eq_true rfl) rfl (Val.same (v' := .bool true) (Val.eqlI rfl rfl) (rfl)) ?_
      refine TL.val rfl rfl (Nat.le_of_ble_eq_true rfl) (Val.pickAnd rfl rfl rfl) ?_
      refine TL.val rfl rfl (Nat.le_of_ble_eq_true rfl) (Val.move rfl) ?_
      refine TL.valYes rfl rfl (Nat.le_of_ble_eq_true rfl) rfl (Nat.le_of_ble_eq_true rfl) rfl (Val.move rfl) ?_
      refine TL.valYes rfl rfl (Nat.le_of_ble_eq_true rfl) rfl (Nat.le_of_ble_eq_true rfl) rfl (Val.same (v' := .bool true) (Val.eqlI rfl rfl) (rfl)) ?_
      refine TL.val rfl rfl (Nat.le_of_ble_eq_true rfl) (Val.pickAnd rfl rfl rfl) ?_
      refine TL.val rfl rfl (Nat.le_of_ble_eq_true rfl) (Val.move rfl) ?_
      refine TL.valYes rfl rfl (Nat.le_of_ble_eq_true rfl) rfl (Nat.le_of_ble_eq_true rfl) rfl (Val.move rfl) ?_
      refine TL.valYes rfl rfl (Nat.le_of_ble_eq_true rfl) rfl (Nat.le_of_ble_eq_true rfl) rfl (Val.same (v' := .bool true) (Val.eqlI rfl rfl) (rfl)) ?_
      refine TL.val rfl rfl (Nat.le_of_ble_eq_true rfl) (Val.pickAnd rfl rfl rfl) ?_
      refine TL.val rfl rfl (Nat.le_of_ble_eq_true rfl) (Val.move rfl) ?_
      refine TL.valYes rfl rfl (Nat.le_of_ble_eq_true rfl) rfl (Nat.le_of_ble_eq_true rfl) rfl (Val.move rfl) ?_
      refine TL.valYes rfl rfl (Nat.le_of_ble_eq_true rfl) rfl (Nat.le_of_ble_eq_true rfl) rfl (Val.same (v' := .bool true) (Val.eqlI rfl rfl) (rfl)) ?_
      refine TL.val rfl rfl (Nat.le_of_ble_eq_true rfl) (Val.pickAnd rfl rfl rfl) ?_
      refine TL.val rfl rfl (Nat.le_of_ble_eq_true rfl) (Val.move rfl) ?_
      refine TL.valYes rfl rfl (Nat.le_of_ble_eq_true rfl) rfl (Nat.le_of_ble_eq_true rfl) rfl (Val.move rfl) ?_
      refine TL.valYes rfl rfl (Nat.le_of_ble_eq_true rfl) rfl (Nat.le_of_ble_eq_true rfl) rfl (Val.same (v' := .bool true) (Val.eqlI rfl rfl) (rfl)) ?_
      refine TL.val rfl rfl (Nat.le_of_ble_eq_true rfl) (Val.pickAnd rfl rfl rfl) ?_
      refine TL.val rfl rfl (Nat.le_of_ble_eq_true rfl) (Val.move rfl) ?_
      refine TL.valYes rfl rfl (Nat.le_of_ble_eq_true rfl) rfl (Nat.le_of_ble_eq_true rfl) rfl (Val.move rfl) ?_
      refine TL.valYes rfl rfl (Nat.le_of_ble_eq_true rfl) rfl (Nat.le_of_ble_eq_true rfl) rfl (Val.same (v' := .bool true) (Val.eqlI rfl rfl) (rfl)) ?_
      refine TL.val rfl rfl (Nat.le_of_ble_eq_true rfl) (Val.pickAnd rfl rfl rfl) ?_
      refine TL.val rfl rfl (Nat.le_of_ble_eq_true rfl) (Val.move rfl) ?_
      refine TL.valYes rfl rfl (Nat.le_of_ble_eq_true rfl) rfl (Nat.le_of_ble_eq_true rfl) rfl (Val.move rfl) ?_
      refine TL.valYes rfl rfl (Nat.le_of_ble_eq_true rfl) rfl (Nat.le_of_ble_eq_true rfl) rfl (Val.same (v' := .bool true) (Val.eqlI rfl rfl) (rfl)) ?_
      refine TL.val rfl rfl (Nat.le_of_ble_eq_true rfl) (Val.pickAnd rfl rfl rfl) ?_
      refine TL.val rfl rfl (Nat.le_of_ble_eq_true rfl) (Val.move rfl) ?_
      refine TL.valYes rfl rfl (Nat.le_of_ble_eq_true rfl) rfl (Nat.le_of_ble_eq_true rfl) rfl (Val.move rfl) ?_
      refine TL.valYes rfl rfl (Nat.le_of_ble_eq_true rfl) rfl (Nat.le_of_ble_eq_true rfl) rfl (Val.same (v' := .bool true) (Val.eqlI rfl rfl) (rfl)) ?_
      refine TL.val rfl rfl (Nat.le_of_ble_eq_true rfl) (Val.pickAnd rfl rfl rfl) ?_
      refine TL.val rfl rfl (Nat.le_of_ble_eq_true rfl) (Val.move rfl) ?_
      refine TL.valYes rfl rfl (Nat.le_of_ble_eq_true rfl) rfl (Nat.le_of_ble_eq_true rfl) rfl (Val.fieldAddr rfl fl61_2 sz3 rfl) ?_
      refine TL.valYes rfl rfl (Nat.le_of_ble_eq_true rfl) rfl (Nat.le_of_ble_eq_true rfl) rfl (Val.load 6 rfl ag3 rfl rfl) ?_
      refine TL.valYes rfl rfl (Nat.le_of_ble_eq_true rfl) rfl (Nat.le_of_ble_eq_true rfl) rfl (Val.same (v' := .bool true) (Val.eqlI rfl rfl) (rfl)) ?_
      refine TL.val rfl rfl (Nat.le_of_ble_eq_true rfl) (Val.pickAnd rfl rfl rfl) ?_
      refine TL.val rfl rfl (Nat.le_of_ble_eq_true rfl) (Val.move rfl) ?_
      refine TL.valYes rfl rfl (Nat.le_of_ble_eq_true rfl) rfl (Nat.le_of_ble_eq_true rfl) rfl (Val.move rfl) ?_
      refine TL.valYes rfl rfl (Nat.le_of_ble_eq_true rfl) rfl (Nat.le_of_ble_eq_true rfl) rfl (Val.same (v' := .bool true) (Val.eqlI rfl rfl) (rfl)) ?_
      refine TL.val rfl rfl (Nat.le_of_ble_eq_true rfl) (Val.pickAnd rfl rfl rfl) ?_
      refine TL.val rfl rfl (Nat.le_of_ble_eq_true rfl) (Val.move rfl) ?_
      refine TL.valYes rfl rfl (Nat.le_of_ble_eq_true rfl) rfl (Nat.le_of_ble_eq_true rfl) rfl (Val.move rfl) ?_
      refine TL.doesYes (some 148) rfl rfl rfl (Nat.le_of_ble_eq_true rfl) rfl rfl (Does.callF go70 rfl (gRing_fn gb rb lb nb cn ob co sn so cfD 4 7 5 ([⟨0, 0⟩, ⟨0, 0⟩, ⟨1, 0⟩, ⟨0, 0⟩] : List On) ([n0, n1, pn, n3] : List Nat) ([o0, o1, n2, o3] : List Nat) (repO pn cfD.window 0 0 0 :: (b21, .cells #[.int .i64 2, .int .i64 2, .int .i64 1, .int .i64 2, .int .i64 1, .int .i64 0, .int .i64 0] 61 (0, 0)) :: (bR, row 5 (bv (sealB (macKey 1 2 0) ⟨2, (2 : Nat), 1, 2, 1, 0, 0⟩) ++ spR)) :: (bK, row 5 (bv ((sealB (macKey 1 2 0) ⟨1, (2 : Nat), 0, 1, 1, 9, 0⟩).set 40 ((sealB (macKey 1 2 0) ⟨1, (2 : Nat), 0, 1, 1, 9, 0⟩).getD 40 0 ^^^ 1)) ++ spK)) :: (b5_, .cells #[.int .i64 1, .int .i64 2, .int .i64 0, .int .i64 1, .int .i64 1, .int .i64 9, .int .i64 0] 61 (0, 0)) :: (bE, row 5 (bv (sealB (macKey 1 2 0) ⟨1, (2 : Nat), 0, 1, 1, 9, 0⟩) ++ spE)) :: sobj sb 1 2 1 0 :: repO n0 cfD.window 0 0 0 :: repO n1 cfD.window 0 0 0 :: repO n2 cfD.window 2 (nextB cfD.window (nextB cfD.window 0)) 0 :: repO n3 cfD.window 0 0 0 :: repO o0 cfD.window 0 0 0 :: repO o1 cfD.window 0 0 0 :: repO o2 cfD.window 0 0 0 :: repO o3 cfD.window 0 0 0 :: M))) ?_
      rintro _ _ ⟨rfl, rfl⟩
      refine TL.doesYes (some 149) rfl rfl rfl (Nat.le_of_ble_eq_true rfl) rfl rfl (Does.callF go71 rfl (rGen_fn rb lb 1 cfD.seed 4 cfD.grace 7 _ rfl ([⟨0, 0⟩, ⟨0, 0⟩, ⟨1, 0⟩, ⟨0, 0⟩] : List On) (.some (rd_rowA (i := 2) rfl)) rfl 2 ⟨1, 0⟩ rfl)) ?_
      rintro _ _ ⟨rfl, rfl⟩
      refine TL.valYes rfl rfl (Nat.le_of_ble_eq_true rfl) rfl (Nat.le_of_ble_eq_true rfl) rfl (Val.same (v' := .bool true) (Val.eqlI rfl rfl) (rfl)) ?_
      refine TL.val rfl rfl (Nat.le_of_ble_eq_true rfl) (Val.pickAnd rfl rfl rfl) ?_
      refine TL.val rfl rfl (Nat.le_of_ble_eq_true rfl) (Val.move rfl) ?_
      refine TL.valYes rfl rfl (Nat.le_of_ble_eq_true rfl) rfl (Nat.le_of_ble_eq_true rfl) rfl (Val.move rfl) ?_
      refine TL.doesYes (some 154) rfl rfl rfl (Nat.le_of_ble_eq_true rfl) rfl rfl (Does.callF go72 rfl (gReplay_fn gb rb lb nb cn ob co sn so cfD 4 7 5 ([⟨0, 0⟩, ⟨0, 0⟩, ⟨1, 0⟩, ⟨0, 0⟩] : List On) ([n0, n1, pn, n3] : List Nat) ([o0, o1, n2, o3] : List Nat) (repO pn cfD.window 0 0 0 :: (b21, .cells #[.int .i64 2, .int .i64 2, .int .i64 1, .int .i64 2, .int .i64 1, .int .i64 0, .int .i64 0] 61 (0, 0)) :: (bR, row 5 (bv (sealB (macKey 1 2 0) ⟨2, (2 : Nat), 1, 2, 1, 0, 0⟩) ++ spR)) :: (bK, row 5 (bv ((sealB (macKey 1 2 0) ⟨1, (2 : Nat), 0, 1, 1, 9, 0⟩).set 40 ((sealB (macKey 1 2 0) ⟨1, (2 : Nat), 0, 1, 1, 9, 0⟩).getD 40 0 ^^^ 1)) ++ spK)) :: (b5_, .cells #[.int .i64 1, .int .i64 2, .int .i64 0, .int .i64 1, .int .i64 1, .int .i64 9, .int .i64 0] 61 (0, 0)) :: (bE, row 5 (bv (sealB (macKey 1 2 0) ⟨1, (2 : Nat), 0, 1, 1, 9, 0⟩) ++ spE)) :: sobj sb 1 2 1 0 :: repO n0 cfD.window 0 0 0 :: repO n1 cfD.window 0 0 0 :: repO n2 cfD.window 2 (nextB cfD.window (nextB cfD.window 0)) 0 :: repO n3 cfD.window 0 0 0 :: repO o0 cfD.window 0 0 0 :: repO o1 cfD.window 0 0 0 :: repO o2 cfD.window 0 0 0 :: repO o3 cfD.window 0 0 0 :: M) 2 (by decide) pn rfl)) ?_
      rintro _ _ ⟨rfl, rfl⟩
      refine TL.doesYes (some 155) rfl rfl rfl (Nat.le_of_ble_eq_true rfl) rfl rfl (Does.callF go73 rfl (pTop_fn pn 5 cfD.window 0 0 0 _ rfl)) ?_
      rintro _ _ ⟨rfl, rfl⟩
      refine TL.valYes rfl rfl (Nat.le_of_ble_eq_true rfl) rfl (Nat.le_of_ble_eq_true rfl) rfl (Val.same (v' := .bool true) (Val.eqlI rfl rfl) (rfl)) ?_
      refine TL.val rfl rfl (Nat.le_of_ble_eq_true rfl) (Val.pickAnd rfl rfl rfl) ?_
      refine TL.val rfl rfl (Nat.le_of_ble_eq_true rfl) (Val.move rfl) ?_
      refine TL.valYes rfl rfl (Nat.le_of_ble_eq_true rfl) rfl (Nat.le_of_ble_eq_true rfl) rfl (Val.move rfl) ?_
      refine TL.doesYes (some 160) rfl rfl rfl (Nat.le_of_ble_eq_true rfl) rfl rfl (Does.callF go74 rfl (gOld_fn gb rb lb nb cn ob co sn so cfD 4 7 5 ([⟨0, 0⟩, ⟨0, 0⟩, ⟨1, 0⟩, ⟨0, 0⟩] : List On) ([n0, n1, pn, n3] : List Nat) ([o0, o1, n2, o3] : List Nat) (repO pn cfD.window 0 0 0 :: (b21, .cells #[.int .i64 2, .int .i64 2, .int .i64 1, .int .i64 2, .int .i64 1, .int .i64 0, .int .i64 0] 61 (0, 0)) :: (bR, row 5 (bv (sealB (macKey 1 2 0) ⟨2, (2 : Nat), 1, 2, 1, 0, 0⟩) ++ spR)) :: (bK, row 5 (bv ((sealB (macKey 1 2 0) ⟨1, (2 : Nat), 0, 1, 1, 9, 0⟩).set 40 ((sealB (macKey 1 2 0) ⟨1, (2 : Nat), 0, 1, 1, 9, 0⟩).getD 40 0 ^^^ 1)) ++ spK)) :: (b5_, .cells #[.int .i64 1, .int .i64 2, .int .i64 0, .int .i64 1, .int .i64 1, .int .i64 9, .int .i64 0] 61 (0, 0)) :: (bE, row 5 (bv (sealB (macKey 1 2 0) ⟨1, (2 : Nat), 0, 1, 1, 9, 0⟩) ++ spE)) :: sobj sb 1 2 1 0 :: repO n0 cfD.window 0 0 0 :: repO n1 cfD.window 0 0 0 :: repO n2 cfD.window 2 (nextB cfD.window (nextB cfD.window 0)) 0 :: repO n3 cfD.window 0 0 0 :: repO o0 cfD.window 0 0 0 :: repO o1 cfD.window 0 0 0 :: repO o2 cfD.window 0 0 0 :: repO o3 cfD.window 0 0 0 :: M) 2 (by decide) n2 rfl)) ?_
      rintro _ _ ⟨rfl, rfl⟩
      refine TL.doesYes (some 161) rfl rfl rfl (Nat.le_of_ble_eq_true rfl) rfl rfl (Does.callF go73 rfl (pTop_fn n2 14 cfD.window 2 _ 0 _ rfl)) ?_
      rintro _ _ ⟨rfl, rfl⟩
      refine TL.valYes rfl rfl (Nat.le_of_ble_eq_true rfl) rfl (Nat.le_of_ble_eq_true rfl) rfl (Val.same (v' := .bool true) (Val.eqlI rfl rfl) (rfl)) ?_
      refine TL.val rfl rfl (Nat.le_of_ble_eq_true rfl) (Val.pickAnd rfl rfl rfl) ?_
      refine TL.val rfl rfl (Nat.le_of_ble_eq_true rfl) (Val.move rfl) ?_
      refine TL.valYes rfl rfl (Nat.le_of_ble_eq_true rfl) rfl (Nat.le_of_ble_eq_true rfl) rfl (Val.move rfl) ?_
      refine TL.doesYes (some 166) rfl rfl rfl (Nat.le_of_ble_eq_true rfl) rfl rfl (Does.callF go72 rfl (gReplay_no gb rb lb nb cn ob co sn so cfD 4 7 5 ([⟨0, 0⟩, ⟨0, 0⟩, ⟨1, 0⟩, ⟨0, 0⟩] : List On) ([n0, n1, pn, n3] : List Nat) ([o0, o1, n2, o3] : List Nat) (repO pn cfD.window 0 0 0 :: (b21, .cells #[.int .i64 2, .int .i64 2, .int .i64 1, .int .i64 2, .int .i64 1, .int .i64 0, .int .i64 0] 61 (0, 0)) :: (bR, row 5 (bv (sealB (macKey 1 2 0) ⟨2, (2 : Nat), 1, 2, 1, 0, 0⟩) ++ spR)) :: (bK, row 5 (bv ((sealB (macKey 1 2 0) ⟨1, (2 : Nat), 0, 1, 1, 9, 0⟩).set 40 ((sealB (macKey 1 2 0) ⟨1, (2 : Nat), 0, 1, 1, 9, 0⟩).getD 40 0 ^^^ 1)) ++ spK)) :: (b5_, .cells #[.int .i64 1, .int .i64 2, .int .i64 0, .int .i64 1, .int .i64 1, .int .i64 9, .int .i64 0] 61 (0, 0)) :: (bE, row 5 (bv (sealB (macKey 1 2 0) ⟨1, (2 : Nat), 0, 1, 1, 9, 0⟩) ++ spE)) :: sobj sb 1 2 1 0 :: repO n0 cfD.window 0 0 0 :: repO n1 cfD.window 0 0 0 :: repO n2 cfD.window 2 (nextB cfD.window (nextB cfD.window 0)) 0 :: repO n3 cfD.window 0 0 0 :: repO o0 cfD.window 0 0 0 :: repO o1 cfD.window 0 0 0 :: repO o2 cfD.window 0 0 0 :: repO o3 cfD.window 0 0 0 :: M) 9 (by decide))) ?_
      rintro _ _ ⟨rfl, rfl⟩
      refine TL.valYes rfl rfl (Nat.le_of_ble_eq_true rfl) rfl (Nat.le_of_ble_eq_true rfl) rfl (Val.same (v' := .bool true) (Val.eqlNil rfl rfl pt118) (rfl)) ?_
      refine TL.val rfl rfl (Nat.le_of_ble_eq_true rfl) (Val.pickAnd rfl rfl rfl) ?_
      refine TL.val rfl rfl (Nat.le_of_ble_eq_true rfl) (Val.move rfl) ?_
      refine TL.valYes rfl rfl (Nat.le_of_ble_eq_true rfl) rfl (Nat.le_of_ble_eq_true rfl) rfl (Val.buildS pl26 ze26 rfl rfl) ?_
      refine TL.doesYes (some 171) rfl rfl rfl (Nat.le_of_ble_eq_true rfl) rfl rfl (Does.callF go29 rfl (gNew_nil cfZ _ ⟨by decide, by decide⟩ ⟨by decide, by decide⟩ tg_Z (by decide))) ?_
      rintro _ _ ⟨rfl, rfl⟩
      refine TL.valYes rfl rfl (Nat.le_of_ble_eq_true rfl) rfl (Nat.le_of_ble_eq_true rfl) rfl (Val.same (v' := .bool true) (Val.eqlNil rfl rfl pt55) (rfl)) ?_
      refine TL.val rfl rfl (Nat.le_of_ble_eq_true rfl) (Val.pickAnd rfl rfl rfl) ?_
      refine TL.val rfl rfl (Nat.le_of_ble_eq_true rfl) (Val.assign rfl) ?_
      refine TL.nil ?_
      refine AtX.then ?_
      refine TC.env (E' := [(0, _)]) (Sub.cons rfl (Sub.nil _)) ?_
      refine TC.ret1 (fn := Try.f35) (fun _ _ h => h) rfl (RV.tmp rfl) (M' := M) (by repeat (first | exact ro_refl | exact ro_pre | refine ro_tail ?_ | refine ro_app ?_)) ?_
      exact ⟨rfl, rfl⟩

end Go.Proofs.Ytphoapajlcaoeaa
/- walks -/
set_option linter.unusedVariables false
set_option linter.unusedSimpArgs false
set_option maxRecDepth 100000
set_option maxHeartbeats 4000000
namespace Go.Proofs.Ytphoapajlcaoeaa
open Go Go.X
theorem chk_all {a b c d e : Bool} (h1 : a = true) (h2 : b = true) (h3 : c = true) (h5 : e = true) : chkC a b c d e = if d = true then 7 else 0 := by subst h1 h2 h3 h5; cases d <;> rfl
theorem may0 {w : Int} (h : 1 ≤ w ∧ w ≤ 64) : mayP w 0 0 1 = true := by
  unfold mayP
  rw [decide_eq_false (by omega)]; rfl
theorem fresh_eq {ep tm f code e2 : Int} (h1 : 0 ≤ tm) (h2 : tm ≤ 1000000) (h3 : 0 ≤ ep ∧ ep ≤ 1000000) (h4 : 1 ≤ f ∧ f ≤ 8) (h : ((decide (ep < tm) || decide (f ≤ IntKind.u64.wrap (ep - tm))) = false ∧ code = 0 ∧ e2 = ep) ∨ ((decide (ep < tm) || decide (f ≤ IntKind.u64.wrap (ep - tm))) = true ∧ code = 7)) :
    (ep ≥ tm ∧ ep < tm + f ∧ code = 0 ∧ e2 = ep) ∨ (¬ (ep ≥ tm ∧ ep < tm + f) ∧ code = 7) := by
  by_cases hlt : ep < tm
  · rcases h with ⟨h5, _⟩ | ⟨_, h5⟩
    · rw [decide_eq_true hlt] at h5; cases h5
    · exact .inr ⟨by omega, h5⟩
  · rw [decide_eq_false hlt, w_u64 (by omega) (by omega)] at h
    rcases h with ⟨h5, h6, h7⟩ | ⟨h5, h6⟩
    · simp at h5; exact .inl ⟨by omega, by omega, h6, h7⟩
    · simp at h5; exact .inr ⟨by omega, h6⟩
/-- quorumite/quorumitelaw8.VerifyFresh -/
theorem VerifyFresh_fn (zs : List Int) (A : Option Addr) (n cA : Nat) (now by_ : Int) (M : Hp) (hA : RdS M A (zs.map (Value.int .i64))) (hn : n = zs.length) : FnC Try.prog 8 #[.slice A n cA, .int .i64 now, .int .i64 by_] M (fun v M' => v = .bool true ∧ M = M') := by
  refine FnC.intro Try.func8 rfl 104 rfl (by simp) (fun z => ?_)
  refine TC.env (E' := [(0, _), (1, _), (2, _)]) (Sub.cons rfl (Sub.cons rfl (Sub.cons rfl (Sub.nil _)))) ?_
  refine TC.seq ?_
  refine TC.region ?_
  refine TL.val rfl rfl (Nat.le_of_ble_eq_true rfl) (Val.assign rfl) ?_
  refine TL.nil ?_
  refine AtX.then ?_
  refine TC.seq ?_
  refine TC.region ?_
  refine TL.val rfl rfl (Nat.le_of_ble_eq_true rfl) (Val.move rfl) ?_
  refine TL.does (some 18) rfl rfl rfl (Does.callF go11 rfl (Fit_fn zs A n cA _ hA hn)) ?_
  rintro _ _ ⟨cf, rfl, hcf, rfl⟩
  have hn16 := hcf.n
  have hfr := hcf.fresh
  have hmm := hcf.m
  have hwin := hcf.window
  have hgrc := hcf.grace
  obtain ⟨N, hN⟩ : ∃ N : Nat, cf.n = N := ⟨cf.n.toNat, by omega⟩
  refine TL.does (some 7) rfl rfl rfl (Does.alloc ze26 rfl) ?_
  rintro _ _ ⟨b2, rfl, rfl⟩
  refine TL.does none rfl rfl rfl (Does.storeR (ys' := [.int .i64 (cf.n), .int .i64 (cf.f), .int .i64 (cf.m), .int .i64 (cf.quorum), .int .i64 (cf.fresh), .int .i64 (cf.grace), .int .i64 (cf.window), .int .i64 (cf.t0), .int .i64 (cf.t1), .int .i64 (cf.t2), .int .i64 (cf.t3), .int .i64 (cf.tol), .int .i64 (cf.min), .int .i64 (cf.max), .int .i64 (cf.calmup), .int .i64 (cf.calmdown), .int .i64 (cf.podsup), .int .i64 (cf.pctup), .int .i64 (cf.podsdown), .int .i64 (cf.pctdown), .int .i64 (cf.period), .int .i64 (cf.far), .int .i64 (cf.strikes), .int .i64 (cf.probe), .int .i64 (cf.sectors), .int .u64 (cf.seed)]) 0 rfl rfl rfl sz26 rfl rfl (by exact Nat.le_of_ble_eq_true rfl) rfl) ?_
  rintro _ _ ⟨rfl, rfl⟩
  refine TL.nil ?_
  refine AtX.then ?_
  refine TC.env (E' := [(1, _), (2, _), (6, _), (7, _)]) (Sub.cons rfl (Sub.cons rfl (Sub.cons rfl (Sub.cons rfl (Sub.nil _))))) ?_
  refine TC.seq ?_
  refine TC.drawL ((b2, .cells #[.int .i64 (cf.n), .int .i64 (cf.f), .int .i64 (cf.m), .int .i64 (cf.quorum), .int .i64 (cf.fresh), .int .i64 (cf.grace), .int .i64 (cf.window), .int .i64 (cf.t0), .int .i64 (cf.t1), .int .i64 (cf.t2), .int .i64 (cf.t3), .int .i64 (cf.tol), .int .i64 (cf.min), .int .i64 (cf.max), .int .i64 (cf.calmup), .int .i64 (cf.calmdown), .int .i64 (cf.podsup), .int .i64 (cf.pctup), .int .i64 (cf.podsdown), .int .i64 (cf.pctdown), .int .i64 (cf.period), .int .i64 (cf.far), .int .i64 (cf.strikes), .int .i64 (cf.probe), .int .i64 (cf.sectors), .int .u64 (cf.seed)] 26 (0, 0)) :: M) mixed 7 ?_
  refine TA.tk 0 1 rfl rfl rfl (Val.loadAgg (vs := [.int .i64 (cf.n), .int .i64 (cf.f), .int .i64 (cf.m), .int .i64 (cf.quorum), .int .i64 (cf.fresh), .int .i64 (cf.grace), .int .i64 (cf.window), .int .i64 (cf.t0), .int .i64 (cf.t1), .int .i64 (cf.t2), .int .i64 (cf.t3), .int .i64 (cf.tol), .int .i64 (cf.min), .int .i64 (cf.max), .int .i64 (cf.calmup), .int .i64 (cf.calmdown), .int .i64 (cf.podsup), .int .i64 (cf.pctup), .int .i64 (cf.podsdown), .int .i64 (cf.pctdown), .int .i64 (cf.period), .int .i64 (cf.far), .int .i64 (cf.strikes), .int .i64 (cf.probe), .int .i64 (cf.sectors), .int .u64 (cf.seed)]) 0 rfl ag26 sz26 rfl rfl rfl) ?_
  refine TA.tk 2 5 rfl rfl rfl (Val.fieldAddr rfl fl26_22 sz24 rfl) ?_
  refine TA.tk 3 13 rfl rfl rfl (Val.load 0 rfl ag24 rfl rfl) ?_
  refine TA.one 1 (by kernel_rfl) ?_
  refine TO.dz 15 (some 20) rfl rfl rfl rfl (Does.callF go29 rfl (gNew_fn cf N _ hcf hN)) ?_
  rintro _ _ ⟨gb, rb, lb, nb, cn, sn, ob, co, so, nws, ols, rfl, hnl, hol, rfl⟩
  refine roK ?_
  refine TA.one 4 (by kernel_rfl) ?_
  refine TO.dz 31 (some 23) rfl rfl rfl rfl (Does.callF go30 rfl (sNew_fn cf.seed 1 _ ⟨by decide, by decide⟩)) ?_
  rintro _ _ ⟨sb, rfl, rfl⟩
  refine roK ?_
  refine TA.tk 5 63 rfl rfl rfl (Val.assign rfl) ?_
  refine TA.tk 6 127 rfl rfl rfl (Val.assign rfl) ?_
  refine TA.done (by kernel_rfl) ?_
  refine AtX.then ?_
  refine TC.env (E' := [(1, _), (2, _), (6, _), (7, _), (8, _), (9, _)]) (Sub.cons rfl (Sub.cons rfl (Sub.cons rfl (Sub.cons rfl (Sub.cons rfl (Sub.cons rfl (Sub.nil _))))))) ?_
  refine TC.seq ?_
  refine TC.seq ?_
  refine TC.heap (M' := gateO gb cf rb (some ⟨nb, 0, none⟩) N cn (some ⟨ob, 0, none⟩) N co 0 :: ringO rb cf.seed lb N cf.grace 0 :: (lb, row 161 ((List.replicate N (⟨0, 0⟩ : On)).flatMap On.cs)) :: (nb, row 118 (nws.map pp ++ sn)) :: (ob, row 118 (ols.map pp ++ so)) :: ((b2, .cells #[.int .i64 (cf.n), .int .i64 (cf.f), .int .i64 (cf.m), .int .i64 (cf.quorum), .int .i64 (cf.fresh), .int .i64 (cf.grace), .int .i64 (cf.window), .int .i64 (cf.t0), .int .i64 (cf.t1), .int .i64 (cf.t2), .int .i64 (cf.t3), .int .i64 (cf.tol), .int .i64 (cf.min), .int .i64 (cf.max), .int .i64 (cf.calmup), .int .i64 (cf.calmdown), .int .i64 (cf.podsup), .int .i64 (cf.pctup), .int .i64 (cf.podsdown), .int .i64 (cf.pctdown), .int .i64 (cf.period), .int .i64 (cf.far), .int .i64 (cf.strikes), .int .i64 (cf.probe), .int .i64 (cf.sectors), .int .u64 (cf.seed)] 26 (0, 0)) :: sobj sb cf.seed 1 0 0 :: ((nws.map fun p => repO p cf.window 0 0 0) ++ ((ols.map fun p => repO p cf.window 0 0 0) ++ M)))) ro_bxf ?_
  refine TC.region ?_
  refine TL.val rfl rfl (Nat.le_of_ble_eq_true rfl) (Val.move rfl) ?_
  refine TL.val rfl rfl (Nat.le_of_ble_eq_true rfl) (Val.eqlNil rfl rfl pt55) ?_
  refine TL.val rfl rfl (Nat.le_of_ble_eq_true rfl) (Val.move rfl) ?_
  refine TL.valYes rfl rfl (Nat.le_of_ble_eq_true rfl) rfl (Nat.le_of_ble_eq_true rfl) rfl (Val.move rfl) ?_
  refine TL.valYes rfl rfl (Nat.le_of_ble_eq_true rfl) rfl (Nat.le_of_ble_eq_true rfl) rfl (Val.eqlNil rfl rfl pt57) ?_
  refine TL.val rfl rfl (Nat.le_of_ble_eq_true rfl) (Val.pickOr rfl rfl rfl) ?_
  refine TL.val rfl rfl (Nat.le_of_ble_eq_true rfl) (Val.move rfl) ?_
  refine TL.gen (fun g5 hg5 => ?_)
  refine TL.gval rfl rfl (Nat.le_of_ble_eq_true rfl) rfl (Nat.le_of_ble_eq_true rfl) rfl (fun hg => by subst hg; exact (Val.fieldAddr rfl fl26_0 sz3 rfl)) ?_
  refine TL.gval rfl rfl (Nat.le_of_ble_eq_true rfl) rfl (Nat.le_of_ble_eq_true rfl) rfl (fun hg => by subst hg; exact (Val.load 5 rfl ag3 rfl rfl)) ?_
  refine TL.gval rfl rfl (Nat.le_of_ble_eq_true rfl) rfl (Nat.le_of_ble_eq_true rfl) rfl (fun hg => by subst hg; exact (Val.lss rfl rfl)) ?_
  refine TL.val rfl rfl (Nat.le_of_ble_eq_true rfl) (Val.pickOr rfl rfl rfl) ?_
  refine TL.nil ?_
  refine AtX.then ?_
  refine TC.env (E' := [(1, _), (2, _), (6, _), (7, _), (8, _), (9, _), (34, _)]) (Sub.cons rfl (Sub.cons rfl (Sub.cons rfl (Sub.cons rfl (Sub.cons rfl (Sub.cons rfl (Sub.cons rfl (Sub.nil _)))))))) ?_
  first | refine TC.condP rfl (fun c1 => ?_) (fun c1 => ?_) | refine TC.condN rfl (fun c1 => ?_) (fun c1 => ?_) | refine TC.condB rfl (fun c1 => ?_) (fun c1 => ?_) | refine TC.cond rfl (fun c1 => ?_) (fun c1 => ?_)
  · skip
    refine TC.env (E' := [(1, _), (2, _), (6, _), (7, _), (8, _), (9, _)]) (Sub.cons rfl (Sub.cons rfl (Sub.cons rfl (Sub.cons rfl (Sub.cons rfl (Sub.cons rfl (Sub.nil _))))))) ?_
    refine TC.seq ?_
    refine TC.region ?_
    refine TL.does (some 35) rfl rfl rfl (Does.callF go35 rfl (told8_fn _)) ?_
    rintro _ _ ⟨rfl, rfl⟩
    refine TL.val rfl rfl (Nat.le_of_ble_eq_true rfl) (Val.move rfl) ?_
    refine TL.valYes rfl rfl (Nat.le_of_ble_eq_true rfl) rfl (Nat.le_of_ble_eq_true rfl) rfl (Val.move rfl) ?_
    refine TL.valYes rfl rfl (Nat.le_of_ble_eq_true rfl) rfl (Nat.le_of_ble_eq_true rfl) rfl (Val.neqNil rfl rfl pt55) ?_
    refine TL.val rfl rfl (Nat.le_of_ble_eq_true rfl) (Val.pickAnd rfl rfl rfl) ?_
    refine TL.val rfl rfl (Nat.le_of_ble_eq_true rfl) (Val.assign rfl) ?_
    refine TL.nil ?_
    refine AtX.then ?_
    refine TC.env (E' := [(1, _), (2, _), (6, _), (7, _), (8, _), (9, _)]) (Sub.cons rfl (Sub.cons rfl (Sub.cons rfl (Sub.cons rfl (Sub.cons rfl (Sub.cons rfl (Sub.nil _))))))) ?_
    refine TC.ret1 (fn := Try.f8) (fun _ _ h => h) rfl (RV.tmp rfl) (M' := M) (by repeat (first | exact ro_refl | exact ro_pre | refine ro_tail ?_ | refine ro_app ?_)) ?_
    exact ⟨rfl, rfl⟩
  · skip
    refine TC.env (E' := [(1, _), (2, _), (6, _), (7, _), (8, _), (9, _)]) (Sub.cons rfl (Sub.cons rfl (Sub.cons rfl (Sub.cons rfl (Sub.cons rfl (Sub.cons rfl (Sub.nil _))))))) ?_
    refine TC.skip ?_
    refine AtX.then ?_
    refine TC.env (E' := [(1, _), (2, _), (6, _), (7, _), (8, _), (9, _)]) (Sub.cons rfl (Sub.cons rfl (Sub.cons rfl (Sub.cons rfl (Sub.cons rfl (Sub.cons rfl (Sub.nil _))))))) ?_
    refine TC.seq ?_
    have hN2 : 2 ≤ N := by grind
    obtain ⟨r1, hr1, g1_, l1_⟩ := rem_ex (m := IntKind.u64.wrap now) (d := 100000) (by rw [w_u64m]; omega) (by decide)
    obtain ⟨r2, hr2, g2_, l2_⟩ := rem_ex (m := IntKind.u64.wrap by_) (d := 21) (by rw [w_u64m]; omega) (by decide)
    obtain ⟨tm, htm⟩ : ∃ tm, tm = 20 + r1 := ⟨_, rfl⟩
    obtain ⟨ep, hep⟩ : ∃ ep, ep = tm - 10 + r2 := ⟨_, rfl⟩
    have hm : mayM ⟨1, ((1 : Nat) : Int), 0, 1, ep, 5, 0⟩ = true := mayM_iff.2 (by simp; omega)
    obtain ⟨p, hp⟩ : ∃ p, nws[1]? = some p := ⟨_, List.getElem?_eq_getElem (by omega)⟩
    obtain ⟨p2, hp2⟩ : ∃ p2, ols[1]? = some p2 := ⟨_, List.getElem?_eq_getElem (by omega)⟩
    have hx0 : (List.replicate N (⟨0, 0⟩ : On))[1]? = some (⟨0, 0⟩ : On) := by rw [List.getElem?_replicate, if_pos (by omega)]
    refine TC.region ?_
    refine TL.val rfl rfl (Nat.le_of_ble_eq_true rfl) (Val.move rfl) ?_
    refine TL.val rfl rfl (Nat.le_of_ble_eq_true rfl) (Val.convI rfl iu2 in24 rfl) ?_
    refine TL.val rfl rfl (Nat.le_of_ble_eq_true rfl) (Val.rem rfl rfl (by decide) (r := r1) hr1) ?_
    refine TL.val rfl rfl (Nat.le_of_ble_eq_true rfl) (Val.convI rfl iu24 in2 (w_i64 (by omega) (by omega))) ?_
    refine TL.val rfl rfl (Nat.le_of_ble_eq_true rfl) (Val.add rfl rfl (r := tm) (by rw [w_i64 (by omega) (by omega)]; omega)) ?_
    refine TL.val rfl rfl (Nat.le_of_ble_eq_true rfl) (Val.assign rfl) ?_
    refine TL.nil ?_
    refine AtX.then ?_
    refine TC.env (E' := [(2, _), (6, _), (7, _), (8, _), (9, _), (10, _)]) (Sub.cons rfl (Sub.cons rfl (Sub.cons rfl (Sub.cons rfl (Sub.cons rfl (Sub.cons rfl (Sub.nil _))))))) ?_
    refine TC.seq ?_
    refine TC.region ?_
    refine TL.val rfl rfl (Nat.le_of_ble_eq_true rfl) (Val.move rfl) ?_
    refine TL.val rfl rfl (Nat.le_of_ble_eq_true rfl) (Val.sub rfl rfl (r := tm - 10) (w_i64 (by omega) (by omega))) ?_
    refine TL.val rfl rfl (Nat.le_of_ble_eq_true rfl) (Val.move rfl) ?_
    refine TL.val rfl rfl (Nat.le_of_ble_eq_true rfl) (Val.convI rfl iu3 in32 rfl) ?_
    refine TL.val rfl rfl (Nat.le_of_ble_eq_true rfl) (Val.rem rfl rfl (by decide) (r := r2) hr2) ?_
    refine TL.val rfl rfl (Nat.le_of_ble_eq_true rfl) (Val.convI rfl iu32 in2 (w_i64 (by omega) (by omega))) ?_
    refine TL.val rfl rfl (Nat.le_of_ble_eq_true rfl) (Val.add rfl rfl (r := ep) (by rw [w_i64 (by omega) (by omega)]; omega)) ?_
    refine TL.val rfl rfl (Nat.le_of_ble_eq_true rfl) (Val.assign rfl) ?_
    refine TL.nil ?_
    refine AtX.then ?_
    refine TC.env (E' := [(6, _), (7, _), (8, _), (9, _), (10, _), (11, _)]) (Sub.cons rfl (Sub.cons rfl (Sub.cons rfl (Sub.cons rfl (Sub.cons rfl (Sub.cons rfl (Sub.nil _))))))) ?_
    refine TC.seq ?_
    refine TC.region ?_
    refine TL.val rfl rfl (Nat.le_of_ble_eq_true rfl) (Val.move rfl) ?_
    refine TL.val rfl rfl (Nat.le_of_ble_eq_true rfl) (Val.move rfl) ?_
    refine TL.does (some 55) rfl rfl rfl (Does.callF go31 rfl (sSample_fn sb 6 cf.seed 1 0 0 0 ep 5 _ rfl hm)) ?_
    rintro _ _ ⟨bE, cE, spE, rfl, hcE, rfl⟩
    refine TL.heap (M' := gateO gb cf rb (some ⟨nb, 0, none⟩) N cn (some ⟨ob, 0, none⟩) N co 0 :: ringO rb cf.seed lb N cf.grace 0 :: (lb, row 161 ((List.replicate N (⟨0, 0⟩ : On)).flatMap On.cs)) :: (nb, row 118 (nws.map pp ++ sn)) :: (ob, row 118 (ols.map pp ++ so)) :: ((bE, row 5 (bv (sealB (macKey cf.seed ((1 : Nat) : Int) 0) ⟨1, ((1 : Nat) : Int), 0, 1, ep, 5, 0⟩) ++ spE)) :: (b2, .cells #[.int .i64 (cf.n), .int .i64 (cf.f), .int .i64 (cf.m), .int .i64 (cf.quorum), .int .i64 (cf.fresh), .int .i64 (cf.grace), .int .i64 (cf.window), .int .i64 (cf.t0), .int .i64 (cf.t1), .int .i64 (cf.t2), .int .i64 (cf.t3), .int .i64 (cf.tol), .int .i64 (cf.min), .int .i64 (cf.max), .int .i64 (cf.calmup), .int .i64 (cf.calmdown), .int .i64 (cf.podsup), .int .i64 (cf.pctup), .int .i64 (cf.podsdown), .int .i64 (cf.pctdown), .int .i64 (cf.period), .int .i64 (cf.far), .int .i64 (cf.strikes), .int .i64 (cf.probe), .int .i64 (cf.sectors), .int .u64 (cf.seed)] 26 (0, 0)) :: sobj sb cf.seed 1 0 (0 + 1) :: ((nws.map fun p => repO p cf.window 0 0 0) ++ ((ols.map fun p => repO p cf.window 0 0 0) ++ M)))) (fun w h => ro_mv (A := [_]) (L := [_, _, _, _, _]) w h) ?_
    refine TL.val rfl rfl (Nat.le_of_ble_eq_true rfl) (Val.move rfl) ?_
    refine TL.val rfl rfl (Nat.le_of_ble_eq_true rfl) (Val.extract rfl rfl) ?_
    refine TL.val rfl rfl (Nat.le_of_ble_eq_true rfl) (Val.extract rfl rfl) ?_
    refine TL.val rfl rfl (Nat.le_of_ble_eq_true rfl) (Val.assign rfl) ?_
    refine TL.val rfl rfl (Nat.le_of_ble_eq_true rfl) (Val.assign rfl) ?_
    refine TL.nil ?_
    refine AtX.then ?_
    refine TC.env (E' := [(6, _), (7, _), (8, _), (10, _), (11, _), (12, _), (13, _)]) (Sub.cons rfl (Sub.cons rfl (Sub.cons rfl (Sub.cons rfl (Sub.cons rfl (Sub.cons rfl (Sub.cons rfl (Sub.nil _)))))))) ?_
    refine TC.seq ?_
    have hrep : ((bE, row 5 (bv (sealB (macKey cf.seed ((1 : Nat) : Int) 0) ⟨1, ((1 : Nat) : Int), 0, 1, ep, 5, 0⟩) ++ spE)) :: (b2, .cells #[.int .i64 (cf.n), .int .i64 (cf.f), .int .i64 (cf.m), .int .i64 (cf.quorum), .int .i64 (cf.fresh), .int .i64 (cf.grace), .int .i64 (cf.window), .int .i64 (cf.t0), .int .i64 (cf.t1), .int .i64 (cf.t2), .int .i64 (cf.t3), .int .i64 (cf.tol), .int .i64 (cf.min), .int .i64 (cf.max), .int .i64 (cf.calmup), .int .i64 (cf.calmdown), .int .i64 (cf.podsup), .int .i64 (cf.pctup), .int .i64 (cf.podsdown), .int .i64 (cf.pctdown), .int .i64 (cf.period), .int .i64 (cf.far), .int .i64 (cf.strikes), .int .i64 (cf.probe), .int .i64 (cf.sectors), .int .u64 (cf.seed)] 26 (0, 0)) :: sobj sb cf.seed 1 0 (0 + 1) :: ((nws.map fun p => repO p cf.window 0 0 0) ++ ((ols.map fun p => repO p cf.window 0 0 0) ++ M)))[4]? = some (repO (if sgen 1 0 = (⟨0, 0⟩ : On).gen then p else p2) cf.window 0 0 0) := by show (((nws.map fun p => repO p cf.window 0 0 0) ++ ((ols.map fun p => repO p cf.window 0 0 0) ++ M)))[1]? = _; rw [List.getElem?_append_left (by simp; omega), List.getElem?_map, hp]; rfl
    refine TC.region ?_
    refine TL.val rfl rfl (Nat.le_of_ble_eq_true rfl) (Val.move rfl) ?_
    refine TL.val rfl rfl (Nat.le_of_ble_eq_true rfl) (Val.move rfl) ?_
    refine TL.val rfl rfl (Nat.le_of_ble_eq_true rfl) (Val.move rfl) ?_
    refine TL.does (some 62) rfl rfl rfl (Does.callF go32 rfl ((Check_nil gb rb lb nb cn ob co sn so cf N 0 0 (List.replicate N (⟨0, 0⟩ : On)) nws ols ((bE, row 5 (bv (sealB (macKey cf.seed ((1 : Nat) : Int) 0) ⟨1, ((1 : Nat) : Int), 0, 1, ep, 5, 0⟩) ++ spE)) :: (b2, .cells #[.int .i64 (cf.n), .int .i64 (cf.f), .int .i64 (cf.m), .int .i64 (cf.quorum), .int .i64 (cf.fresh), .int .i64 (cf.grace), .int .i64 (cf.window), .int .i64 (cf.t0), .int .i64 (cf.t1), .int .i64 (cf.t2), .int .i64 (cf.t3), .int .i64 (cf.tol), .int .i64 (cf.min), .int .i64 (cf.max), .int .i64 (cf.calmup), .int .i64 (cf.calmdown), .int .i64 (cf.podsup), .int .i64 (cf.pctup), .int .i64 (cf.podsdown), .int .i64 (cf.pctdown), .int .i64 (cf.period), .int .i64 (cf.far), .int .i64 (cf.strikes), .int .i64 (cf.probe), .int .i64 (cf.sectors), .int .u64 (cf.seed)] 26 (0, 0)) :: sobj sb cf.seed 1 0 (0 + 1) :: ((nws.map fun p => repO p cf.window 0 0 0) ++ ((ols.map fun p => repO p cf.window 0 0 0) ++ M))) hN (by simp) hnl hol hgrc ⟨by decide, by decide⟩ 1 ⟨0, 0⟩ hx0 ⟨by decide, by decide⟩ ⟨by decide, by decide⟩ 1 0 1 ep 5 0 ⟨by decide, by decide⟩ (by decide) tm hcf p p2 hp hp2 4 0 0 0 ⟨by decide, by decide⟩ hrep ⟨by omega, by omega⟩ hm ⟨by decide, by decide⟩ (tagB (tagOf (macKey cf.seed ((1 : Nat) : Int) 0) (putM ⟨1, ((1 : Nat) : Int), 0, 1, ep, 5, 0⟩))) (some ⟨bE, 0, none⟩) cE (rd_all (i := 0) (sp := spE) rfl) (by omega) (by simp)).mono (R' := fun v M' => ∃ (q : Ms) (code ref2 : Int), v = .tuple #[.agg #[.int .i64 q.kind, .int .i64 q.who, .int .i64 q.gen, .int .i64 q.seq, .int .i64 q.epoch, .int .i64 q.value, .int .i64 q.metric], .int .i64 code] ∧ (((decide (ep < tm) || decide (cf.fresh ≤ IntKind.u64.wrap (ep - tm))) = false ∧ code = 0 ∧ q.epoch = ep) ∨ ((decide (ep < tm) || decide (cf.fresh ≤ IntKind.u64.wrap (ep - tm))) = true ∧ code = 7)) ∧ M' = (gateO gb cf rb (some ⟨nb, 0, none⟩) N cn (some ⟨ob, 0, none⟩) N co ref2 :: ringO rb cf.seed lb N cf.grace (0 + 1) :: (lb, row 161 ((List.replicate N (⟨0, 0⟩ : On)).flatMap On.cs)) :: (nb, row 118 (nws.map pp ++ sn)) :: (ob, row 118 (ols.map pp ++ so)) :: ((bE, row 5 (bv (sealB (macKey cf.seed ((1 : Nat) : Int) 0) ⟨1, ((1 : Nat) : Int), 0, 1, ep, 5, 0⟩) ++ spE)) :: (b2, .cells #[.int .i64 (cf.n), .int .i64 (cf.f), .int .i64 (cf.m), .int .i64 (cf.quorum), .int .i64 (cf.fresh), .int .i64 (cf.grace), .int .i64 (cf.window), .int .i64 (cf.t0), .int .i64 (cf.t1), .int .i64 (cf.t2), .int .i64 (cf.t3), .int .i64 (cf.tol), .int .i64 (cf.min), .int .i64 (cf.max), .int .i64 (cf.calmup), .int .i64 (cf.calmdown), .int .i64 (cf.podsup), .int .i64 (cf.pctup), .int .i64 (cf.podsdown), .int .i64 (cf.pctdown), .int .i64 (cf.period), .int .i64 (cf.far), .int .i64 (cf.strikes), .int .i64 (cf.probe), .int .i64 (cf.sectors), .int .u64 (cf.seed)] 26 (0, 0)) :: sobj sb cf.seed 1 0 (0 + 1) :: ((nws.map fun p => repO p cf.window 0 0 0) ++ ((ols.map fun p => repO p cf.window 0 0 0) ++ M))))) (fun v M' h => by
        have hC : ∀ s, (decide (ep < tm) || decide (cf.fresh ≤ IntKind.u64.wrap (ep - tm))) = s → chkC true true true s true = if s = true then 7 else 0 := fun s _ => by cases s <;> rfl
        have hc := chk_all (d := (decide (ep < tm) || decide (cf.fresh ≤ IntKind.u64.wrap (ep - tm)))) (show okK ⟨0, 0⟩ (sgen 1 0) tm cf.grace = true from rfl) (decide_eq_true (same_yes (tagOf_bd (macKey cf.seed ((1 : Nat) : Int) 0) (putM ⟨1, ((1 : Nat) : Int), 0, 1, ep, 5, 0⟩)).1 (tagOf_bd (macKey cf.seed ((1 : Nat) : Int) 0) (putM ⟨1, ((1 : Nat) : Int), 0, 1, ep, 5, 0⟩)).2)) (may0 hwin) (e := decide ((0 : Int) < cf.m)) (decide_eq_true (by omega))
        have hok1 : okK ⟨0, 0⟩ (sgen 1 0) tm cf.grace = true := rfl
        rw [if_pos hok1] at h
        rw [show sgen 1 0 = 0 from rfl] at h hc
        rcases h with ⟨h1, h2, h3⟩ | ⟨h1, h2, h3⟩
        · refine ⟨⟨1, ((1 : Nat) : Int), 0, 1, ep, 5, 0⟩, 0, 0, h2, .inl ⟨?_, rfl, rfl⟩, h3⟩
          have h4 := hc.symm.trans h1
          cases hs : (decide (ep < tm) || decide (cf.fresh ≤ IntKind.u64.wrap (ep - tm))) with
          | false => rfl
          | true => rw [hs] at h4; cases h4
        · refine ⟨msZ, _, _, h2, .inr ?_, h3⟩
          cases hs : (decide (ep < tm) || decide (cf.fresh ≤ IntKind.u64.wrap (ep - tm))) with
          | true =>
            have h7 : (if (decide (ep < tm) || decide (cf.fresh ≤ IntKind.u64.wrap (ep - tm))) = true then (7 : Int) else 0) = 7 := by rw [hs]; rfl
            have h8 := hc.trans h7
            rw [hs] at h8
            exact ⟨rfl, h8⟩
          | false => 
            have h7 : (if (decide (ep < tm) || decide (cf.fresh ≤ IntKind.u64.wrap (ep - tm))) = true then (7 : Int) else 0) = 0 := by rw [hs]; rfl
            have h8 := hc.trans h7
            exact absurd h8 h1))) ?_
    rintro _ _ ⟨q, code, ref2, rfl, hq, rfl⟩
    refine TL.val rfl rfl (Nat.le_of_ble_eq_true rfl) (Val.move rfl) ?_
    refine TL.val rfl rfl (Nat.le_of_ble_eq_true rfl) (Val.extract rfl rfl) ?_
    refine TL.val rfl rfl (Nat.le_of_ble_eq_true rfl) (Val.extract rfl rfl) ?_
    refine TL.does (some 14) rfl rfl rfl (Does.alloc ze61 rfl) ?_
    rintro _ _ ⟨b9, rfl, rfl⟩
    refine TL.does none rfl rfl rfl (Does.store (i := 0) rfl rfl rfl sz61 rfl rfl (by first | exact Nat.le_of_ble_eq_true rfl | decide | omega) rfl rfl) ?_
    rintro _ _ ⟨rfl, rfl⟩
    refine TL.val rfl rfl (Nat.le_of_ble_eq_true rfl) (Val.assign rfl) ?_
    refine TL.nil ?_
    refine AtX.then ?_
    refine TC.env (E' := [(6, _), (7, _), (10, _), (11, _), (13, _), (14, _), (15, _)]) (Sub.cons rfl (Sub.cons rfl (Sub.cons rfl (Sub.cons rfl (Sub.cons rfl (Sub.cons rfl (Sub.cons rfl (Sub.nil _)))))))) ?_
    refine TC.seq ?_
    refine TC.region ?_
    refine TL.val rfl rfl (Nat.le_of_ble_eq_true rfl) (Val.move rfl) ?_
    refine TL.val rfl rfl (Nat.le_of_ble_eq_true rfl) (Val.move rfl) ?_
    refine TL.val rfl rfl (Nat.le_of_ble_eq_true rfl) (Val.geq rfl rfl) ?_
    refine TL.val rfl rfl (Nat.le_of_ble_eq_true rfl) (Val.move rfl) ?_
    refine TL.gen (fun g10 hg10 => ?_)
    refine TL.gval rfl rfl (Nat.le_of_ble_eq_true rfl) rfl (Nat.le_of_ble_eq_true rfl) rfl (fun hg => by subst hg; exact (Val.move rfl)) ?_
    refine TL.gval rfl rfl (Nat.le_of_ble_eq_true rfl) rfl (Nat.le_of_ble_eq_true rfl) rfl (fun hg => by subst hg; exact (Val.move rfl)) ?_
    refine TL.gval rfl rfl (Nat.le_of_ble_eq_true rfl) rfl (Nat.le_of_ble_eq_true rfl) rfl (fun hg => by subst hg; exact (Val.fieldAddr rfl fl26_4 sz3 rfl)) ?_
    refine TL.gval rfl rfl (Nat.le_of_ble_eq_true rfl) rfl (Nat.le_of_ble_eq_true rfl) rfl (fun hg => by subst hg; exact (Val.load 7 rfl ag3 rfl rfl)) ?_
    refine TL.gval rfl rfl (Nat.le_of_ble_eq_true rfl) rfl (Nat.le_of_ble_eq_true rfl) rfl (fun hg => by subst hg; exact (Val.add rfl rfl (r := tm + cf.fresh) (w_i64 (by omega) (by omega)))) ?_
    refine TL.gval rfl rfl (Nat.le_of_ble_eq_true rfl) rfl (Nat.le_of_ble_eq_true rfl) rfl (fun hg => by subst hg; exact (Val.lss rfl rfl)) ?_
    refine TL.val rfl rfl (Nat.le_of_ble_eq_true rfl) (Val.pickAnd rfl rfl rfl) ?_
    refine TL.val rfl rfl (Nat.le_of_ble_eq_true rfl) (Val.assign rfl) ?_
    refine TL.nil ?_
    refine AtX.then ?_
    refine TC.env (E' := [(6, _), (11, _), (13, _), (14, _), (15, _), (16, _)]) (Sub.cons rfl (Sub.cons rfl (Sub.cons rfl (Sub.cons rfl (Sub.cons rfl (Sub.cons rfl (Sub.nil _))))))) ?_
    refine TC.seq ?_
    have hmay : (ep ≥ tm ∧ ep < tm + cf.fresh ∧ code = 0 ∧ q.epoch = ep) ∨ (¬ (ep ≥ tm ∧ ep < tm + cf.fresh) ∧ code = 7) := fresh_eq (by omega) (by omega) (by omega) (by omega) hq
    refine TC.region ?_
    refine TL.does (some 76) rfl rfl rfl (Does.callF go35 rfl (told8_fn _)) ?_
    rintro _ _ ⟨rfl, rfl⟩
    refine TL.val rfl rfl (Nat.le_of_ble_eq_true rfl) (Val.move rfl) ?_
    refine TL.valYes rfl rfl (Nat.le_of_ble_eq_true rfl) rfl (Nat.le_of_ble_eq_true rfl) rfl (Val.move rfl) ?_
    refine TL.valYes rfl rfl (Nat.le_of_ble_eq_true rfl) rfl (Nat.le_of_ble_eq_true rfl) rfl (Val.eqlI rfl rfl) ?_
    refine TL.val rfl rfl (Nat.le_of_ble_eq_true rfl) (Val.pickAnd rfl rfl rfl) ?_
    refine TL.val rfl rfl (Nat.le_of_ble_eq_true rfl) (Val.move rfl) ?_
    refine TL.gen (fun g12 hg12 => ?_)
    refine TL.gval rfl rfl (Nat.le_of_ble_eq_true rfl) rfl (Nat.le_of_ble_eq_true rfl) rfl (fun hg => by subst hg; exact (Val.move rfl)) ?_
    refine TL.gval rfl rfl (Nat.le_of_ble_eq_true rfl) rfl (Nat.le_of_ble_eq_true rfl) rfl (fun hg => by subst hg; exact (Val.eqlI rfl rfl)) ?_
    refine TL.gval rfl rfl (Nat.le_of_ble_eq_true rfl) rfl (Nat.le_of_ble_eq_true rfl) rfl (fun hg => by subst hg; exact (Val.move rfl)) ?_
    refine TL.gval rfl rfl (Nat.le_of_ble_eq_true rfl) rfl (Nat.le_of_ble_eq_true rfl) rfl (fun hg => by subst hg; exact (Val.eqlB rfl rfl un4)) ?_
    refine TL.val rfl rfl (Nat.le_of_ble_eq_true rfl) (Val.pickAnd rfl rfl rfl) ?_
    refine TL.val rfl rfl (Nat.le_of_ble_eq_true rfl) (Val.move rfl) ?_
    refine TL.gen (fun g13 hg13 => ?_)
    cases g13 with
    | false =>
      refine TL.pass rfl rfl (Nat.le_of_ble_eq_true rfl) rfl (Nat.le_of_ble_eq_true rfl) rfl rfl ?_
      refine TL.pass rfl rfl (Nat.le_of_ble_eq_true rfl) rfl (Nat.le_of_ble_eq_true rfl) rfl rfl ?_
      refine TL.passU rfl rfl (Nat.le_of_ble_eq_true rfl) rfl (Nat.le_of_ble_eq_true rfl) rfl ?_
      refine TL.passU rfl rfl (Nat.le_of_ble_eq_true rfl) rfl (Nat.le_of_ble_eq_true rfl) rfl ?_
      refine TL.passU rfl rfl (Nat.le_of_ble_eq_true rfl) rfl (Nat.le_of_ble_eq_true rfl) rfl ?_
      refine TL.passU rfl rfl (Nat.le_of_ble_eq_true rfl) rfl (Nat.le_of_ble_eq_true rfl) rfl ?_
      refine TL.pass rfl rfl (Nat.le_of_ble_eq_true rfl) rfl (Nat.le_of_ble_eq_true rfl) rfl rfl ?_
      refine TL.pass rfl rfl (Nat.le_of_ble_eq_true rfl) rfl (Nat.le_of_ble_eq_true rfl) rfl rfl ?_
      refine TL.passU rfl rfl (Nat.le_of_ble_eq_true rfl) rfl (Nat.le_of_ble_eq_true rfl) rfl ?_
      refine TL.passU rfl rfl (Nat.le_of_ble_eq_true rfl) rfl (Nat.le_of_ble_eq_true rfl) rfl ?_
      refine TL.passU rfl rfl (Nat.le_of_ble_eq_true rfl) rfl (Nat.le_of_ble_eq_true rfl) rfl ?_
      refine TL.passU rfl rfl (Nat.le_of_ble_eq_true rfl) rfl (Nat.le_of_ble_eq_true rfl) rfl ?_
      refine TL.passU rfl rfl (Nat.le_of_ble_eq_true rfl) rfl (Nat.le_of_ble_eq_true rfl) rfl ?_
      refine TL.passU rfl rfl (Nat.le_of_ble_eq_true rfl) rfl (Nat.le_of_ble_eq_true rfl) rfl ?_
      refine TL.pass rfl rfl (Nat.le_of_ble_eq_true rfl) rfl (Nat.le_of_ble_eq_true rfl) rfl rfl ?_
      refine TL.val rfl rfl (Nat.le_of_ble_eq_true rfl) (Val.pick rfl rfl rfl) ?_
      refine TL.val rfl rfl (Nat.le_of_ble_eq_true rfl) (Val.assign rfl) ?_
      refine TL.nil ?_
      refine AtX.then ?_
      refine TC.env (E' := [(6, _)]) (Sub.cons rfl (Sub.nil _)) ?_
      refine TC.ret1 (fn := Try.f8) (fun _ _ h => h) rfl (RV.tmp rfl) (M' := M) (by repeat (first | exact ro_refl | exact ro_pre | refine ro_tail ?_ | refine ro_app ?_)) ?_
      refine ⟨?_, rfl⟩
      refine congrArg Value.bool ?_
      clear hrep hm hx0 hp hp2 hq hA hcf hr1 hr2 hnl hol
      grind
    | true =>
      refine TL.valYes rfl rfl (Nat.le_of_ble_eq_true rfl) rfl (Nat.le_of_ble_eq_true rfl) rfl (Val.move rfl) ?_
      refine TL.valYes rfl rfl (Nat.le_of_ble_eq_true rfl) rfl (Nat.le_of_ble_eq_true rfl) rfl (Val.move rfl) ?_
      refine TL.gen (fun g14 hg14 => ?_)
      cases g14 with
      | false =>
        refine TL.pass rfl rfl (Nat.le_of_ble_eq_true rfl) rfl (Nat.le_of_ble_eq_true rfl) rfl rfl ?_
        refine TL.pass rfl rfl (Nat.le_of_ble_eq_true rfl) rfl (Nat.le_of_ble_eq_true rfl) rfl rfl ?_
        refine TL.pass rfl rfl (Nat.le_of_ble_eq_true rfl) rfl (Nat.le_of_ble_eq_true rfl) rfl rfl ?_
        refine TL.pass rfl rfl (Nat.le_of_ble_eq_true rfl) rfl (Nat.le_of_ble_eq_true rfl) rfl rfl ?_
        refine TL.valYes rfl rfl (Nat.le_of_ble_eq_true rfl) rfl (Nat.le_of_ble_eq_true rfl) rfl (Val.pick rfl rfl rfl) ?_
        refine TL.valYes rfl rfl (Nat.le_of_ble_eq_true rfl) rfl (Nat.le_of_ble_eq_true rfl) rfl (Val.move rfl) ?_
        refine TL.gen (fun g15 hg15 => ?_)
        cases g15 with
        | false =>
          refine TL.valYes rfl rfl (Nat.le_of_ble_eq_true rfl) rfl (Nat.le_of_ble_eq_true rfl) rfl (Val.move rfl) ?_
          refine TL.valYes rfl rfl (Nat.le_of_ble_eq_true rfl) rfl (Nat.le_of_ble_eq_true rfl) rfl (Val.not rfl) ?_
          refine TL.valYes rfl rfl (Nat.le_of_ble_eq_true rfl) rfl (Nat.le_of_ble_eq_true rfl) rfl (Val.move rfl) ?_
          refine TL.gen (fun g16 hg16 => ?_)
          cases g16 with
          | false =>
            refine TL.pass rfl rfl (Nat.le_of_ble_eq_true rfl) rfl (Nat.le_of_ble_eq_true rfl) rfl rfl ?_
            refine TL.pass rfl rfl (Nat.le_of_ble_eq_true rfl) rfl (Nat.le_of_ble_eq_true rfl) rfl rfl ?_
            refine TL.valYes rfl rfl (Nat.le_of_ble_eq_true rfl) rfl (Nat.le_of_ble_eq_true rfl) rfl (Val.pick rfl rfl rfl) ?_
            refine TL.valYes rfl rfl (Nat.le_of_ble_eq_true rfl) rfl (Nat.le_of_ble_eq_true rfl) rfl (Val.pickOr rfl rfl rfl) ?_
            refine TL.val rfl rfl (Nat.le_of_ble_eq_true rfl) (Val.pickAnd rfl rfl rfl) ?_
            refine TL.val rfl rfl (Nat.le_of_ble_eq_true rfl) (Val.assign rfl) ?_
            refine TL.nil ?_
            refine AtX.then ?_
            refine TC.env (E' := [(6, _)]) (Sub.cons rfl (Sub.nil _)) ?_
            refine TC.ret1 (fn := Try.f8) (fun _ _ h => h) rfl (RV.tmp rfl) (M' := M) (by repeat (first | exact ro_refl | exact ro_pre | refine ro_tail ?_ | refine ro_app ?_)) ?_
            refine ⟨?_, rfl⟩
            refine congrArg Value.bool ?_
            clear hrep hm hx0 hp hp2 hq hA hcf hr1 hr2 hnl hol
            grind
          | true =>
            refine TL.valYes rfl rfl (Nat.le_of_ble_eq_true rfl) rfl (Nat.le_of_ble_eq_true rfl) rfl (Val.move rfl) ?_
            refine TL.valYes rfl rfl (Nat.le_of_ble_eq_true rfl) rfl (Nat.le_of_ble_eq_true rfl) rfl (Val.eqlI rfl rfl) ?_
            refine TL.valYes rfl rfl (Nat.le_of_ble_eq_true rfl) rfl (Nat.le_of_ble_eq_true rfl) rfl (Val.pickAnd rfl rfl rfl) ?_
            refine TL.valYes rfl rfl (Nat.le_of_ble_eq_true rfl) rfl (Nat.le_of_ble_eq_true rfl) rfl (Val.pickOr rfl rfl rfl) ?_
            refine TL.val rfl rfl (Nat.le_of_ble_eq_true rfl) (Val.pickAnd rfl rfl rfl) ?_
            refine TL.val rfl rfl (Nat.le_of_ble_eq_true rfl) (Val.assign rfl) ?_
            refine TL.nil ?_
            refine AtX.then ?_
            refine TC.env (E' := [(6, _)]) (Sub.cons rfl (Sub.nil _)) ?_
            refine TC.ret1 (fn := Try.f8) (fun _ _ h => h) rfl (RV.tmp rfl) (M' := M) (by repeat (first | exact ro_refl | exact ro_pre | refine ro_tail ?_ | refine ro_app ?_)) ?_
            refine ⟨?_, rfl⟩
            refine congrArg Value.bool ?_
            clear hrep hm hx0 hp hp2 hq hA hcf hr1 hr2 hnl hol
            grind
        | true =>
          refine TL.pass rfl rfl (Nat.le_of_ble_eq_true rfl) rfl (Nat.le_of_ble_eq_true rfl) rfl rfl ?_
          refine TL.pass rfl rfl (Nat.le_of_ble_eq_true rfl) rfl (Nat.le_of_ble_eq_true rfl) rfl rfl ?_
          refine TL.pass rfl rfl (Nat.le_of_ble_eq_true rfl) rfl (Nat.le_of_ble_eq_true rfl) rfl rfl ?_
          refine TL.passU rfl rfl (Nat.le_of_ble_eq_true rfl) rfl (Nat.le_of_ble_eq_true rfl) rfl ?_
          refine TL.passU rfl rfl (Nat.le_of_ble_eq_true rfl) rfl (Nat.le_of_ble_eq_true rfl) rfl ?_
          refine TL.pass rfl rfl (Nat.le_of_ble_eq_true rfl) rfl (Nat.le_of_ble_eq_true rfl) rfl rfl ?_
          refine TL.valYes rfl rfl (Nat.le_of_ble_eq_true rfl) rfl (Nat.le_of_ble_eq_true rfl) rfl (Val.pick rfl rfl rfl) ?_
          refine TL.val rfl rfl (Nat.le_of_ble_eq_true rfl) (Val.pickAnd rfl rfl rfl) ?_
          refine TL.val rfl rfl (Nat.le_of_ble_eq_true rfl) (Val.assign rfl) ?_
          refine TL.nil ?_
          refine AtX.then ?_
          refine TC.env (E' := [(6, _)]) (Sub.cons rfl (Sub.nil _)) ?_
          refine TC.ret1 (fn := Try.f8) (fun _ _ h => h) rfl (RV.tmp rfl) (M' := M) (by repeat (first | exact ro_refl | exact ro_pre | refine ro_tail ?_ | refine ro_app ?_)) ?_
          refine ⟨?_, rfl⟩
          refine congrArg Value.bool ?_
          clear hrep hm hx0 hp hp2 hq hA hcf hr1 hr2 hnl hol
          grind
      | true =>
        refine TL.valYes rfl rfl (Nat.le_of_ble_eq_true rfl) rfl (Nat.le_of_ble_eq_true rfl) rfl (Val.fieldAddr rfl fl61_4 sz2 rfl) ?_
        refine TL.valYes rfl rfl (Nat.le_of_ble_eq_true rfl) rfl (Nat.le_of_ble_eq_true rfl) rfl (Val.load 0 rfl ag2 rfl rfl) ?_
        refine TL.valYes rfl rfl (Nat.le_of_ble_eq_true rfl) rfl (Nat.le_of_ble_eq_true rfl) rfl (Val.move rfl) ?_
        refine TL.valYes rfl rfl (Nat.le_of_ble_eq_true rfl) rfl (Nat.le_of_ble_eq_true rfl) rfl (Val.eqlI rfl rfl) ?_
        refine TL.valYes rfl rfl (Nat.le_of_ble_eq_true rfl) rfl (Nat.le_of_ble_eq_true rfl) rfl (Val.pickAnd rfl rfl rfl) ?_
        refine TL.valYes rfl rfl (Nat.le_of_ble_eq_true rfl) rfl (Nat.le_of_ble_eq_true rfl) rfl (Val.move rfl) ?_
        refine TL.gen (fun g17 hg17 => ?_)
        cases g17 with
        | false =>
          refine TL.valYes rfl rfl (Nat.le_of_ble_eq_true rfl) rfl (Nat.le_of_ble_eq_true rfl) rfl (Val.move rfl) ?_
          refine TL.valYes rfl rfl (Nat.le_of_ble_eq_true rfl) rfl (Nat.le_of_ble_eq_true rfl) rfl (Val.not rfl) ?_
          refine TL.valYes rfl rfl (Nat.le_of_ble_eq_true rfl) rfl (Nat.le_of_ble_eq_true rfl) rfl (Val.move rfl) ?_
          refine TL.gen (fun g18 hg18 => ?_)
          cases g18 with
          | false =>
            refine TL.pass rfl rfl (Nat.le_of_ble_eq_true rfl) rfl (Nat.le_of_ble_eq_true rfl) rfl rfl ?_
            refine TL.pass rfl rfl (Nat.le_of_ble_eq_true rfl) rfl (Nat.le_of_ble_eq_true rfl) rfl rfl ?_
            refine TL.valYes rfl rfl (Nat.le_of_ble_eq_true rfl) rfl (Nat.le_of_ble_eq_true rfl) rfl (Val.pick rfl rfl rfl) ?_
            refine TL.valYes rfl rfl (Nat.le_of_ble_eq_true rfl) rfl (Nat.le_of_ble_eq_true rfl) rfl (Val.pickOr rfl rfl rfl) ?_
            refine TL.val rfl rfl (Nat.le_of_ble_eq_true rfl) (Val.pickAnd rfl rfl rfl) ?_
            refine TL.val rfl rfl (Nat.le_of_ble_eq_true rfl) (Val.assign rfl) ?_
            refine TL.nil ?_
            refine AtX.then ?_
            refine TC.env (E' := [(6, _)]) (Sub.cons rfl (Sub.nil _)) ?_
            refine TC.ret1 (fn := Try.f8) (fun _ _ h => h) rfl (RV.tmp rfl) (M' := M) (by repeat (first | exact ro_refl | exact ro_pre | refine ro_tail ?_ | refine ro_app ?_)) ?_
            refine ⟨?_, rfl⟩
            refine congrArg Value.bool ?_
            clear hrep hm hx0 hp hp2 hq hA hcf hr1 hr2 hnl hol
            grind
          | true =>
            refine TL.valYes rfl rfl (Nat.le_of_ble_eq_true rfl) rfl (Nat.le_of_ble_eq_true rfl) rfl (Val.move rfl) ?_
            refine TL.valYes rfl rfl (Nat.le_of_ble_eq_true rfl) rfl (Nat.le_of_ble_eq_true rfl) rfl (Val.eqlI rfl rfl) ?_
            refine TL.valYes rfl rfl (Nat.le_of_ble_eq_true rfl) rfl (Nat.le_of_ble_eq_true rfl) rfl (Val.pickAnd rfl rfl rfl) ?_
            refine TL.valYes rfl rfl (Nat.le_of_ble_eq_true rfl) rfl (Nat.le_of_ble_eq_true rfl) rfl (Val.pickOr rfl rfl rfl) ?_
            refine TL.val rfl rfl (Nat.le_of_ble_eq_true rfl) (Val.pickAnd rfl rfl rfl) ?_
            refine TL.val rfl rfl (Nat.le_of_ble_eq_true rfl) (Val.assign rfl) ?_
            refine TL.nil ?_
            refine AtX.then ?_
            refine TC.env (E' := [(6, _)]) (Sub.cons rfl (Sub.nil _)) ?_
            refine TC.ret1 (fn := Try.f8) (fun _ _ h => h) rfl (RV.tmp rfl) (M' := M) (by repeat (first | exact ro_refl | exact ro_pre | refine ro_tail ?_ | refine ro_app ?_)) ?_
            refine ⟨?_, rfl⟩
            refine congrArg Value.bool ?_
            clear hrep hm hx0 hp hp2 hq hA hcf hr1 hr2 hnl hol
            grind
        | true =>
          refine TL.pass rfl rfl (Nat.le_of_ble_eq_true rfl) rfl (Nat.le_of_ble_eq_true rfl) rfl rfl ?_
          refine TL.pass rfl rfl (Nat.le_of_ble_eq_true rfl) rfl (Nat.le_of_ble_eq_true rfl) rfl rfl ?_
          refine TL.pass rfl rfl (Nat.le_of_ble_eq_true rfl) rfl (Nat.le_of_ble_eq_true rfl) rfl rfl ?_
          refine TL.passU rfl rfl (Nat.le_of_ble_eq_true rfl) rfl (Nat.le_of_ble_eq_true rfl) rfl ?_
          refine TL.passU rfl rfl (Nat.le_of_ble_eq_true rfl) rfl (Nat.le_of_ble_eq_true rfl) rfl ?_
          refine TL.pass rfl rfl (Nat.le_of_ble_eq_true rfl) rfl (Nat.le_of_ble_eq_true rfl) rfl rfl ?_
          refine TL.valYes rfl rfl (Nat.le_of_ble_eq_true rfl) rfl (Nat.le_of_ble_eq_true rfl) rfl (Val.pick rfl rfl rfl) ?_
          refine TL.val rfl rfl (Nat.le_of_ble_eq_true rfl) (Val.pickAnd rfl rfl rfl) ?_
          refine TL.val rfl rfl (Nat.le_of_ble_eq_true rfl) (Val.assign rfl) ?_
          refine TL.nil ?_
          refine AtX.then ?_
          refine TC.env (E' := [(6, _)]) (Sub.cons rfl (Sub.nil _)) ?_
          refine TC.ret1 (fn := Try.f8) (fun _ _ h => h) rfl (RV.tmp rfl) (M' := M) (by repeat (first | exact ro_refl | exact ro_pre | refine ro_tail ?_ | refine ro_app ?_)) ?_
          refine ⟨?_, rfl⟩
          refine congrArg Value.bool ?_
          clear hrep hm hx0 hp hp2 hq hA hcf hr1 hr2 hnl hol
          grind

end Go.Proofs.Ytphoapajlcaoeaa
