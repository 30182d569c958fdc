/- walks -/
import Derived.Test.YtphoapajlcaoeaaA7
import Derived.Test.YtphoapajlcaoeaaE15
import Derived.Test.YtphoapajlcaoeaaES8
import Derived.Test.YtphoapajlcaoeaaE9d
set_option linter.unusedVariables false
set_option linter.unusedSimpArgs false
set_option maxRecDepth 100000
set_option maxHeartbeats 4000000
namespace Go.Proofs.Ytphoapajlcaoeaa
open Go Go.X
/-- quorumite/quorumitelaw3.Fit -/
theorem Fit_fn (zs : List Int) (A : Option Addr) (nn cc : Nat) (M : Hp) (hA : RdS M A (zs.map (Value.int .i64))) (hn : nn = zs.length) : FnC Try.prog 11 #[.slice A nn cc] M (fun v M' => ∃ c : Cf, v = .agg c.cs ∧ OkC c ∧ M = M') := by
  subst hn
  refine FnC.intro Try.func11 rfl 173 rfl (by simp) (fun z => ?_)
  refine TC.env (E' := [(0, _)]) (Sub.cons rfl (Sub.nil _)) ?_
  refine TC.seq ?_
  refine TC.region ?_
  refine TL.does (some 2) rfl rfl rfl (Does.alloc ze26 rfl) ?_
  rintro _ _ ⟨b1, rfl, rfl⟩
  refine TL.nil ?_
  refine AtX.then ?_
  refine TC.seq ?_
  refine TC.region ?_
  refine TL.does (some 7) rfl rfl rfl (Does.callF go43 rfl (refDefault_fn _)) ?_
  rintro _ _ ⟨rfl, rfl⟩
  refine TL.does (some 3) rfl rfl rfl (Does.alloc ze26 rfl) ?_
  rintro _ _ ⟨b3, rfl, rfl⟩
  refine TL.does none rfl rfl rfl (Does.storeR (ys' := [.int .i64 (4), .int .i64 (1), .int .i64 (1), .int .i64 (3), .int .i64 (2), .int .i64 (2), .int .i64 (32), .int .i64 (1000), .int .i64 (0), .int .i64 (0), .int .i64 (0), .int .i64 (100), .int .i64 (1), .int .i64 (100), .int .i64 (0), .int .i64 (3), .int .i64 (4), .int .i64 (100), .int .i64 (4), .int .i64 (50), .int .i64 (2), .int .i64 (100), .int .i64 (3), .int .i64 (4), .int .i64 (256), .int .u64 (1)]) 0 rfl rfl rfl sz26 rfl rfl (by exact Nat.le_of_ble_eq_true rfl) rfl) ?_
  rintro _ _ ⟨rfl, rfl⟩
  refine TL.nil ?_
  refine AtX.then ?_
  refine TC.env (E' := [(0, _), (2, _), (3, _)]) (Sub.cons rfl (Sub.cons rfl (Sub.cons rfl (Sub.nil _)))) ?_
  refine TC.seq ?_
  refine TC.region ?_
  refine TL.does (some 4) rfl rfl rfl (Does.alloc ze83 rfl) ?_
  rintro _ _ ⟨b4, rfl, rfl⟩
  refine TL.nil ?_
  refine AtX.then ?_
  refine TC.env (E' := [(0, _), (2, _), (3, _), (4, _)]) (Sub.cons rfl (Sub.cons rfl (Sub.cons rfl (Sub.cons rfl (Sub.nil _))))) ?_
  refine TC.seq ?_
  refine TC.seq ?_
  refine TC.heap (M' := (b3, .cells #[.int .i64 (4), .int .i64 (1), .int .i64 (1), .int .i64 (3), .int .i64 (2), .int .i64 (2), .int .i64 (32), .int .i64 (1000), .int .i64 (0), .int .i64 (0), .int .i64 (0), .int .i64 (100), .int .i64 (1), .int .i64 (100), .int .i64 (0), .int .i64 (3), .int .i64 (4), .int .i64 (100), .int .i64 (4), .int .i64 (50), .int .i64 (2), .int .i64 (100), .int .i64 (3), .int .i64 (4), .int .i64 (256), .int .u64 (1)] 26 (0, 0)) :: (b4, row 83 ((List.replicate 20 (0 : Int)).map (Value.int .i64))) :: (b1, .cells #[.int .i64 (0), .int .i64 (0), .int .i64 (0), .int .i64 (0), .int .i64 (0), .int .i64 (0), .int .i64 (0), .int .i64 (0), .int .i64 (0), .int .i64 (0), .int .i64 (0), .int .i64 (0), .int .i64 (0), .int .i64 (0), .int .i64 (0), .int .i64 (0), .int .i64 (0), .int .i64 (0), .int .i64 (0), .int .i64 (0), .int .i64 (0), .int .i64 (0), .int .i64 (0), .int .i64 (0), .int .i64 (0), .int .u64 (0)] 26 (0, 0)) :: M) (fun w h => h.perm (List.Perm.swap _ _ _)) ?_
  refine TC.region ?_
  refine TL.val rfl rfl (Nat.le_of_ble_eq_true rfl) (Val.assign rfl) ?_
  refine TL.nil ?_
  refine AtX.then ?_
  refine TC.env (E' := [(0, _), (2, _), (3, _), (4, _), (5, _)]) (Sub.cons rfl (Sub.cons rfl (Sub.cons rfl (Sub.cons rfl (Sub.cons rfl (Sub.nil _)))))) ?_
  refine TC.block ?_
  refine TC.loop (ι := (Nat × List Int)) (fun i => [(0, .slice A zs.length cc), (2, .pointer (some ⟨b1, 0, none⟩)), (3, .pointer (some ⟨b3, 0, none⟩)), (4, .pointer (some ⟨b4, 0, none⟩)), (5, .int .i64 (i.1 : Nat))]) (fun i => (b3, .cells #[.int .i64 (4), .int .i64 (1), .int .i64 (1), .int .i64 (3), .int .i64 (2), .int .i64 (2), .int .i64 (32), .int .i64 (1000), .int .i64 (0), .int .i64 (0), .int .i64 (0), .int .i64 (100), .int .i64 (1), .int .i64 (100), .int .i64 (0), .int .i64 (3), .int .i64 (4), .int .i64 (100), .int .i64 (4), .int .i64 (50), .int .i64 (2), .int .i64 (100), .int .i64 (3), .int .i64 (4), .int .i64 (256), .int .u64 (1)] 26 (0, 0)) :: (b4, row 83 (i.2.map (Value.int .i64))) :: (b1, .cells #[.int .i64 (0), .int .i64 (0), .int .i64 (0), .int .i64 (0), .int .i64 (0), .int .i64 (0), .int .i64 (0), .int .i64 (0), .int .i64 (0), .int .i64 (0), .int .i64 (0), .int .i64 (0), .int .i64 (0), .int .i64 (0), .int .i64 (0), .int .i64 (0), .int .i64 (0), .int .i64 (0), .int .i64 (0), .int .i64 (0), .int .i64 (0), .int .i64 (0), .int .i64 (0), .int .i64 (0), .int .i64 (0), .int .u64 (0)] 26 (0, 0)) :: M) (fun i => i.1 ≤ 20 ∧ i.2.length = 20 ∧ ∀ x ∈ i.2, 0 ≤ x ∧ x < 100000) (fun i => 20 - i.1) (0, List.replicate 20 0) ?_ (Sub.cons rfl (Sub.cons rfl (Sub.cons rfl (Sub.cons rfl (Sub.cons rfl (Sub.nil _)))))) (fun _ h => h) ?_
  · exact ⟨by omega, by simp, fun x hx => by have := List.eq_of_mem_replicate hx; omega⟩
  rintro ⟨i, q⟩ ⟨hi, hq, hb⟩
  dsimp only at hi hq hb ⊢
  refine TC.seq ?_
  refine TC.seq ?_
  refine TC.region ?_
  refine TL.val rfl rfl (Nat.le_of_ble_eq_true rfl) (Val.move rfl) ?_
  refine TL.val rfl rfl (Nat.le_of_ble_eq_true rfl) (Val.move rfl) ?_
  refine TL.val rfl rfl (Nat.le_of_ble_eq_true rfl) (Val.lenSl rfl rfl sl22) ?_
  refine TL.val rfl rfl (Nat.le_of_ble_eq_true rfl) (Val.lss rfl rfl) ?_
  refine TL.val rfl rfl (Nat.le_of_ble_eq_true rfl) (Val.move rfl) ?_
  refine TL.gen (fun g5 hg5 => ?_)
  refine TL.gval rfl rfl (Nat.le_of_ble_eq_true rfl) rfl (Nat.le_of_ble_eq_true rfl) rfl (fun hg => by subst hg; exact (Val.move rfl)) ?_
  refine TL.gval rfl rfl (Nat.le_of_ble_eq_true rfl) rfl (Nat.le_of_ble_eq_true rfl) rfl (fun hg => by subst hg; exact (Val.lss rfl rfl)) ?_
  first
    | refine TL.val rfl rfl (Nat.le_of_ble_eq_true rfl) (Val.pickAnd rfl rfl rfl) ?_
    | refine TL.val rfl rfl (Nat.le_of_ble_eq_true rfl) (Val.pickOr rfl rfl rfl) ?_
    | refine TL.val rfl rfl (Nat.le_of_ble_eq_true rfl) (Val.pick rfl rfl rfl) ?_
  refine TL.nil ?_
  refine AtX.then ?_
  first | refine TC.condP rfl (fun c1 => ?_) (fun c1 => ?_) | refine TC.condN rfl (fun c1 => ?_) (fun c1 => ?_) | refine TC.condB rfl (fun c1 => ?_) (fun c1 => ?_) | refine TC.cond rfl (fun c1 => ?_) (fun c1 => ?_)
  · skip
    refine TC.skip ?_
    refine AtX.then ?_
    refine TC.seq ?_
    refine TC.block ?_
    have hlt : i < zs.length ∧ i < 20 := by grind
    obtain ⟨x, hx⟩ : ∃ x, zs[i]? = some x := ⟨_, List.getElem?_eq_getElem hlt.1⟩
    obtain ⟨bA, oA, rfl, hR⟩ := RdS.get hA (by simp; omega)
    obtain ⟨r, hr, gr, lr⟩ := rem_ex (m := IntKind.u64.wrap x) (d := 100000) (by rw [w_u64m]; omega) (by decide)
    refine TC.region ?_
    refine TL.val rfl rfl (Nat.le_of_ble_eq_true rfl) (Val.move rfl) ?_
    refine TL.val rfl rfl (Nat.le_of_ble_eq_true rfl) (Val.move rfl) ?_
    refine TL.val rfl rfl (Nat.le_of_ble_eq_true rfl) (Val.move rfl) ?_
    refine TL.val rfl rfl (Nat.le_of_ble_eq_true rfl) (Val.indexAddr (i := i) (r := oA + i) rfl rfl sl22 sz3 rfl hlt.1 (by omega)) ?_
    refine TL.val rfl rfl (Nat.le_of_ble_eq_true rfl) (Val.loadRd (o := oA) (j := i) rfl ag3 (((hR.cons _).cons _).cons _) rfl (map_get hx)) ?_
    refine TL.val rfl rfl (Nat.le_of_ble_eq_true rfl) (Val.convI rfl iu3 in32 rfl) ?_
    refine TL.val rfl rfl (Nat.le_of_ble_eq_true rfl) (Val.rem rfl rfl (by decide) (r := r) hr) ?_
    refine TL.val rfl rfl (Nat.le_of_ble_eq_true rfl) (Val.convI rfl iu32 in3 (w_i64 (by omega) (by omega))) ?_
    refine TL.val rfl rfl (Nat.le_of_ble_eq_true rfl) (Val.indexAddrA (i := i) (r := i) rfl rfl ar83 sz3 rfl hlt.2 (by omega)) ?_
    refine TL.does none rfl rfl rfl (Does.storeR 1 rfl rfl rfl sz3 rfl rfl (by simp; omega) (map_set1 (f := Value.int .i64) (by omega) r)) ?_
    rintro _ _ ⟨rfl, rfl⟩
    refine TL.nil ?_
    refine AtX.blk ?_
    refine AtX.then ?_
    refine TC.region ?_
    refine TL.val rfl rfl (Nat.le_of_ble_eq_true rfl) (Val.move rfl) ?_
    first
      | refine TL.val rfl rfl (Nat.le_of_ble_eq_true rfl) (Val.add rfl rfl (w_i64 (by omega) (by omega))) ?_
      | refine TL.val rfl rfl (Nat.le_of_ble_eq_true rfl) (Val.add rfl rfl rfl) ?_
    refine TL.val rfl rfl (Nat.le_of_ble_eq_true rfl) (Val.assign rfl) ?_
    refine TL.nil ?_
    refine AtX.round (i := (i, q)) (i + 1, q.set i r) ?_ ?_ (Sub.cons rfl (Sub.cons rfl (Sub.cons rfl (Sub.cons rfl (Sub.cons rfl (Sub.nil _)))))) (fun _ h => h)
    · exact ⟨by omega, by simpa using hq, set_bd hb ⟨gr, lr⟩⟩
    · show 20 - (i + 1) < 20 - i; omega
  · skip
    refine TC.exit ?_
    refine AtX.seqX ?_
    refine AtX.seqX ?_
    refine AtX.hit ?_
    refine AtX.then ?_
    refine TC.env (E' := [(0, _), (2, _), (3, _), (4, _)]) (Sub.cons rfl (Sub.cons rfl (Sub.cons rfl (Sub.cons rfl (Sub.nil _))))) ?_
    refine TC.seq ?_
    refine TC.seq ?_
    refine TC.region ?_
    refine TL.val rfl rfl (Nat.le_of_ble_eq_true rfl) (Val.move rfl) ?_
    refine TL.val rfl rfl (Nat.le_of_ble_eq_true rfl) (Val.lenSl rfl rfl sl22) ?_
    refine TL.val rfl rfl (Nat.le_of_ble_eq_true rfl) (Val.eqlI rfl rfl) ?_
    refine TL.nil ?_
    refine AtX.then ?_
    refine TC.env (E' := [(2, _), (3, _), (4, _), (29, _)]) (Sub.cons rfl (Sub.cons rfl (Sub.cons rfl (Sub.cons rfl (Sub.nil _))))) ?_
    first | refine TC.condP rfl (fun c2 => ?_) (fun c2 => ?_) | refine TC.condN rfl (fun c2 => ?_) (fun c2 => ?_) | refine TC.condB rfl (fun c2 => ?_) (fun c2 => ?_) | refine TC.cond rfl (fun c2 => ?_) (fun c2 => ?_)
    · skip
      refine TC.env (E' := [(2, _), (3, _), (4, _)]) (Sub.cons rfl (Sub.cons rfl (Sub.cons rfl (Sub.nil _)))) ?_
      refine TC.seq ?_
      refine TC.region ?_
      refine TL.val rfl rfl (Nat.le_of_ble_eq_true rfl) (Val.loadAgg (vs := [.int .i64 (4), .int .i64 (1), .int .i64 (1), .int .i64 (3), .int .i64 (2), .int .i64 (2), .int .i64 (32), .int .i64 (1000), .int .i64 (0), .int .i64 (0), .int .i64 (0), .int .i64 (100), .int .i64 (1), .int .i64 (100), .int .i64 (0), .int .i64 (3), .int .i64 (4), .int .i64 (100), .int .i64 (4), .int .i64 (50), .int .i64 (2), .int .i64 (100), .int .i64 (3), .int .i64 (4), .int .i64 (256), .int .u64 (1)]) 0 rfl ag26 sz26 rfl rfl rfl) ?_
      refine TL.does none rfl rfl rfl (Does.storeR (ys' := [.int .i64 (4), .int .i64 (1), .int .i64 (1), .int .i64 (3), .int .i64 (2), .int .i64 (2), .int .i64 (32), .int .i64 (1000), .int .i64 (0), .int .i64 (0), .int .i64 (0), .int .i64 (100), .int .i64 (1), .int .i64 (100), .int .i64 (0), .int .i64 (3), .int .i64 (4), .int .i64 (100), .int .i64 (4), .int .i64 (50), .int .i64 (2), .int .i64 (100), .int .i64 (3), .int .i64 (4), .int .i64 (256), .int .u64 (1)]) 2 rfl rfl rfl sz26 rfl rfl (by exact Nat.le_of_ble_eq_true rfl) rfl) ?_
      rintro _ _ ⟨rfl, rfl⟩
      refine TL.nil ?_
      refine AtX.then ?_
      refine TC.env (E' := [(2, _), (3, _), (4, _)]) (Sub.cons rfl (Sub.cons rfl (Sub.cons rfl (Sub.nil _)))) ?_
      first
        | refine TC.ret1 (fn := Try.f11) (fun _ _ h => h) rfl (RV.agg (i := 0) rfl ag26 sz26 rfl rfl rfl) (M' := M) (by repeat (first | exact ro_refl | exact ro_pre | refine ro_tail ?_ | refine ro_app ?_)) ?_
        | refine TC.ret1 (fn := Try.f11) (fun _ _ h => h) rfl (RV.agg (i := 1) rfl ag26 sz26 rfl rfl rfl) (M' := M) (by repeat (first | exact ro_refl | exact ro_pre | refine ro_tail ?_ | refine ro_app ?_)) ?_
        | refine TC.ret1 (fn := Try.f11) (fun _ _ h => h) rfl (RV.agg (i := 2) rfl ag26 sz26 rfl rfl rfl) (M' := M) (by repeat (first | exact ro_refl | exact ro_pre | refine ro_tail ?_ | refine ro_app ?_)) ?_
        | refine TC.ret1 (fn := Try.f11) (fun _ _ h => h) rfl (RV.agg (i := 3) rfl ag26 sz26 rfl rfl rfl) (M' := M) (by repeat (first | exact ro_refl | exact ro_pre | refine ro_tail ?_ | refine ro_app ?_)) ?_
        | refine TC.ret1 (fn := Try.f11) (fun _ _ h => h) rfl (RV.agg (i := 4) rfl ag26 sz26 rfl rfl rfl) (M' := M) (by repeat (first | exact ro_refl | exact ro_pre | refine ro_tail ?_ | refine ro_app ?_)) ?_
        | refine TC.ret1 (fn := Try.f11) (fun _ _ h => h) rfl (RV.agg (i := 5) rfl ag26 sz26 rfl rfl rfl) (M' := M) (by repeat (first | exact ro_refl | exact ro_pre | refine ro_tail ?_ | refine ro_app ?_)) ?_
      exact ⟨cfD, rfl, okD, rfl⟩
    · skip
      refine TC.env (E' := [(2, _), (3, _), (4, _)]) (Sub.cons rfl (Sub.cons rfl (Sub.cons rfl (Sub.nil _)))) ?_
      refine TC.skip ?_
      refine AtX.then ?_
      refine TC.env (E' := [(2, _), (3, _), (4, _)]) (Sub.cons rfl (Sub.cons rfl (Sub.cons rfl (Sub.nil _)))) ?_
      refine TC.seq ?_
      obtain ⟨q0, q1, q2, q3, q4, q5, q6, q7, q8, q9, q10, q11, q12, q13, q14, q15, q16, q17, q18, q19, rfl⟩ := list20 hq
      simp only [List.mem_cons, List.not_mem_nil, or_false, forall_eq_or_imp, forall_eq] at hb
      obtain ⟨hq0, hq1, hq2, hq3, hq4, hq5, hq6, hq7, hq8, hq9, hq10, hq11, hq12, hq13, hq14, hq15, hq16, hq17, hq18, hq19⟩ := hb
      obtain ⟨a0, ha0, ga0, la0⟩ := rem_ex (m := q0) (d := 3) (by omega) (by decide)
      obtain ⟨a1, ha1, ga1, la1⟩ := rem_ex (m := q1) (d := 4) (by omega) (by decide)
      obtain ⟨a2, ha2, ga2, la2⟩ := rem_ex (m := q2) (d := 2) (by omega) (by decide)
      obtain ⟨a4, ha4, ga4, la4⟩ := rem_ex (m := q4) (d := 3) (by omega) (by decide)
      obtain ⟨a5, ha5, ga5, la5⟩ := rem_ex (m := q5) (d := 3) (by omega) (by decide)
      obtain ⟨a6, ha6, ga6, la6⟩ := rem_ex (m := q6) (d := 64) (by omega) (by decide)
      obtain ⟨a7, ha7, ga7, la7⟩ := rem_ex (m := q7) (d := 2000) (by omega) (by decide)
      obtain ⟨a8, ha8, ga8, la8⟩ := rem_ex (m := q8) (d := 2000) (by omega) (by decide)
      obtain ⟨a9, ha9, ga9, la9⟩ := rem_ex (m := q9) (d := 300) (by omega) (by decide)
      obtain ⟨a10, ha10, ga10, la10⟩ := rem_ex (m := q10) (d := 5) (by omega) (by decide)
      obtain ⟨a11, ha11, ga11, la11⟩ := rem_ex (m := q11) (d := 4) (by omega) (by decide)
      obtain ⟨a12, ha12, ga12, la12⟩ := rem_ex (m := q12) (d := 5) (by omega) (by decide)
      obtain ⟨a13, ha13, ga13, la13⟩ := rem_ex (m := q13) (d := 5) (by omega) (by decide)
      obtain ⟨a14, ha14, ga14, la14⟩ := rem_ex (m := q14) (d := 5) (by omega) (by decide)
      obtain ⟨a15, ha15, ga15, la15⟩ := rem_ex (m := q15) (d := 4) (by omega) (by decide)
      obtain ⟨a16, ha16, ga16, la16⟩ := rem_ex (m := q16) (d := 500) (by omega) (by decide)
      obtain ⟨a17, ha17, ga17, la17⟩ := rem_ex (m := q17) (d := 3) (by omega) (by decide)
      obtain ⟨a18, ha18, ga18, la18⟩ := rem_ex (m := q18) (d := 300) (by omega) (by decide)
      obtain ⟨b10, hb10, gb10, lb10⟩ := quo_ex (m := q10) (d := 5) (by omega) (by decide)
      obtain ⟨b13, hb13, gb13, lb13⟩ := quo_ex (m := q13) (d := 5) (by omega) (by decide)
      obtain ⟨b14, hb14, gb14, lb14⟩ := quo_ex (m := q14) (d := 5) (by omega) (by decide)
      obtain ⟨b17, hb17, gb17, lb17⟩ := quo_ex (m := q17) (d := 3) (by omega) (by decide)
      obtain ⟨c10, hc10, gc10, lc10⟩ := rem_ex (m := b10) (d := 60) (by omega) (by decide)
      obtain ⟨c13, hc13, gc13, lc13⟩ := rem_ex (m := b13) (d := 150) (by omega) (by decide)
      obtain ⟨c14, hc14, gc14, lc14⟩ := rem_ex (m := b14) (d := 100) (by omega) (by decide)
      obtain ⟨c17, hc17, gc17, lc17⟩ := rem_ex (m := b17) (d := 4) (by omega) (by decide)
      obtain ⟨a3, ha3, ga3, la3⟩ := rem_ex (m := q3) (d := 3 * a0 + 1 + a1 - 2 * a0) (by omega) (by omega)
      refine TC.heap (M' := (b3, .cells #[.int .i64 (4), .int .i64 (1), .int .i64 (1), .int .i64 (3), .int .i64 (2), .int .i64 (2), .int .i64 (32), .int .i64 (1000), .int .i64 (0), .int .i64 (0), .int .i64 (0), .int .i64 (100), .int .i64 (1), .int .i64 (100), .int .i64 (0), .int .i64 (3), .int .i64 (4), .int .i64 (100), .int .i64 (4), .int .i64 (50), .int .i64 (2), .int .i64 (100), .int .i64 (3), .int .i64 (4), .int .i64 (256), .int .u64 (1)] 26 (0, 0)) :: (b4, .cells #[.int .i64 q0, .int .i64 q1, .int .i64 q2, .int .i64 q3, .int .i64 q4, .int .i64 q5, .int .i64 q6, .int .i64 q7, .int .i64 q8, .int .i64 q9, .int .i64 q10, .int .i64 q11, .int .i64 q12, .int .i64 q13, .int .i64 q14, .int .i64 q15, .int .i64 q16, .int .i64 q17, .int .i64 q18, .int .i64 q19] 83 (0, 0)) :: (b1, .cells #[.int .i64 (0), .int .i64 (0), .int .i64 (0), .int .i64 (0), .int .i64 (0), .int .i64 (0), .int .i64 (0), .int .i64 (0), .int .i64 (0), .int .i64 (0), .int .i64 (0), .int .i64 (0), .int .i64 (0), .int .i64 (0), .int .i64 (0), .int .i64 (0), .int .i64 (0), .int .i64 (0), .int .i64 (0), .int .i64 (0), .int .i64 (0), .int .i64 (0), .int .i64 (0), .int .i64 (0), .int .i64 (0), .int .u64 (0)] 26 (0, 0)) :: M) (fun w h => h) ?_
      refine TC.region ?_
      refine TL.val rfl rfl (Nat.le_of_ble_eq_true rfl) (Val.indexAddrA (i := 0) rfl rfl ar83 sz3 rfl (by first | decide | omega) rfl) ?_
      first
        | refine TL.val rfl rfl (Nat.le_of_ble_eq_true rfl) (Val.load 0 rfl ag3 rfl rfl) ?_
        | refine TL.val rfl rfl (Nat.le_of_ble_eq_true rfl) (Val.load 1 rfl ag3 rfl rfl) ?_
        | refine TL.val rfl rfl (Nat.le_of_ble_eq_true rfl) (Val.load 2 rfl ag3 rfl rfl) ?_
        | refine TL.val rfl rfl (Nat.le_of_ble_eq_true rfl) (Val.load 3 rfl ag3 rfl rfl) ?_
        | refine TL.val rfl rfl (Nat.le_of_ble_eq_true rfl) (Val.load 4 rfl ag3 rfl rfl) ?_
        | refine TL.val rfl rfl (Nat.le_of_ble_eq_true rfl) (Val.load 5 rfl ag3 rfl rfl) ?_
      refine TL.val rfl rfl (Nat.le_of_ble_eq_true rfl) (Val.rem rfl rfl (by first | decide | omega) (r := a0) ha0) ?_
      refine TL.val rfl rfl (Nat.le_of_ble_eq_true rfl) (Val.fieldAddr rfl fl26_1 sz3 rfl) ?_
      first
        | refine TL.does none rfl rfl rfl (Does.store (i := 0) rfl rfl rfl sz3 rfl rfl (by first | exact Nat.le_of_ble_eq_true rfl | decide | omega) rfl rfl) ?_
        | refine TL.does none rfl rfl rfl (Does.store (i := 1) rfl rfl rfl sz3 rfl rfl (by first | exact Nat.le_of_ble_eq_true rfl | decide | omega) rfl rfl) ?_
        | refine TL.does none rfl rfl rfl (Does.store (i := 2) rfl rfl rfl sz3 rfl rfl (by first | exact Nat.le_of_ble_eq_true rfl | decide | omega) rfl rfl) ?_
        | refine TL.does none rfl rfl rfl (Does.store (i := 3) rfl rfl rfl sz3 rfl rfl (by first | exact Nat.le_of_ble_eq_true rfl | decide | omega) rfl rfl) ?_
        | refine TL.does none rfl rfl rfl (Does.store (i := 4) rfl rfl rfl sz3 rfl rfl (by first | exact Nat.le_of_ble_eq_true rfl | decide | omega) rfl rfl) ?_
        | refine TL.does none rfl rfl rfl (Does.store (i := 5) rfl rfl rfl sz3 rfl rfl (by first | exact Nat.le_of_ble_eq_true rfl | decide | omega) rfl rfl) ?_
      rintro _ _ ⟨rfl, rfl⟩
      refine TL.nil ?_
      refine AtX.then ?_
      refine TC.env (E' := [(2, _), (3, _), (4, _)]) (Sub.cons rfl (Sub.cons rfl (Sub.cons rfl (Sub.nil _)))) ?_
      refine TC.seq ?_
      refine TC.heap (M' := (b3, .cells #[.int .i64 (4), .int .i64 (a0), .int .i64 (1), .int .i64 (3), .int .i64 (2), .int .i64 (2), .int .i64 (32), .int .i64 (1000), .int .i64 (0), .int .i64 (0), .int .i64 (0), .int .i64 (100), .int .i64 (1), .int .i64 (100), .int .i64 (0), .int .i64 (3), .int .i64 (4), .int .i64 (100), .int .i64 (4), .int .i64 (50), .int .i64 (2), .int .i64 (100), .int .i64 (3), .int .i64 (4), .int .i64 (256), .int .u64 (1)] 26 (0, 0)) :: (b4, .cells #[.int .i64 q0, .int .i64 q1, .int .i64 q2, .int .i64 q3, .int .i64 q4, .int .i64 q5, .int .i64 q6, .int .i64 q7, .int .i64 q8, .int .i64 q9, .int .i64 q10, .int .i64 q11, .int .i64 q12, .int .i64 q13, .int .i64 q14, .int .i64 q15, .int .i64 q16, .int .i64 q17, .int .i64 q18, .int .i64 q19] 83 (0, 0)) :: (b1, .cells #[.int .i64 (0), .int .i64 (0), .int .i64 (0), .int .i64 (0), .int .i64 (0), .int .i64 (0), .int .i64 (0), .int .i64 (0), .int .i64 (0), .int .i64 (0), .int .i64 (0), .int .i64 (0), .int .i64 (0), .int .i64 (0), .int .i64 (0), .int .i64 (0), .int .i64 (0), .int .i64 (0), .int .i64 (0), .int .i64 (0), .int .i64 (0), .int .i64 (0), .int .i64 (0), .int .i64 (0), .int .i64 (0), .int .u64 (0)] 26 (0, 0)) :: M) (fun w h => h) ?_
      refine TC.region ?_
      refine TL.val rfl rfl (Nat.le_of_ble_eq_true rfl) (Val.fieldAddr rfl fl26_1 sz3 rfl) ?_
      first
        | refine TL.val rfl rfl (Nat.le_of_ble_eq_true rfl) (Val.load 0 rfl ag3 rfl rfl) ?_
        | refine TL.val rfl rfl (Nat.le_of_ble_eq_true rfl) (Val.load 1 rfl ag3 rfl rfl) ?_
        | refine TL.val rfl rfl (Nat.le_of_ble_eq_true rfl) (Val.load 2 rfl ag3 rfl rfl) ?_
        | refine TL.val rfl rfl (Nat.le_of_ble_eq_true rfl) (Val.load 3 rfl ag3 rfl rfl) ?_
        | refine TL.val rfl rfl (Nat.le_of_ble_eq_true rfl) (Val.load 4 rfl ag3 rfl rfl) ?_
        | refine TL.val rfl rfl (Nat.le_of_ble_eq_true rfl) (Val.load 5 rfl ag3 rfl rfl) ?_
      first
        | refine TL.val rfl rfl (Nat.le_of_ble_eq_true rfl) (Val.mul rfl rfl (w_i64 (by omega) (by omega))) ?_
        | refine TL.val rfl rfl (Nat.le_of_ble_eq_true rfl) (Val.mul rfl rfl rfl) ?_
      first
        | refine TL.val rfl rfl (Nat.le_of_ble_eq_true rfl) (Val.add rfl rfl (w_i64 (by omega) (by omega))) ?_
        | refine TL.val rfl rfl (Nat.le_of_ble_eq_true rfl) (Val.add rfl rfl rfl) ?_
      refine TL.val rfl rfl (Nat.le_of_ble_eq_true rfl) (Val.indexAddrA (i := 1) rfl rfl ar83 sz3 rfl (by first | decide | omega) rfl) ?_
      first
        | refine TL.val rfl rfl (Nat.le_of_ble_eq_true rfl) (Val.load 0 rfl ag3 rfl rfl) ?_
        | refine TL.val rfl rfl (Nat.le_of_ble_eq_true rfl) (Val.load 1 rfl ag3 rfl rfl) ?_
        | refine TL.val rfl rfl (Nat.le_of_ble_eq_true rfl) (Val.load 2 rfl ag3 rfl rfl) ?_
        | refine TL.val rfl rfl (Nat.le_of_ble_eq_true rfl) (Val.load 3 rfl ag3 rfl rfl) ?_
        | refine TL.val rfl rfl (Nat.le_of_ble_eq_true rfl) (Val.load 4 rfl ag3 rfl rfl) ?_
        | refine TL.val rfl rfl (Nat.le_of_ble_eq_true rfl) (Val.load 5 rfl ag3 rfl rfl) ?_
      refine TL.val rfl rfl (Nat.le_of_ble_eq_true rfl) (Val.rem rfl rfl (by first | decide | omega) (r := a1) ha1) ?_
      first
        | refine TL.val rfl rfl (Nat.le_of_ble_eq_true rfl) (Val.add rfl rfl (w_i64 (by omega) (by omega))) ?_
        | refine TL.val rfl rfl (Nat.le_of_ble_eq_true rfl) (Val.add rfl rfl rfl) ?_
      refine TL.val rfl rfl (Nat.le_of_ble_eq_true rfl) (Val.fieldAddr rfl fl26_0 sz3 rfl) ?_
      first
        | refine TL.does none rfl rfl rfl (Does.store (i := 0) rfl rfl rfl sz3 rfl rfl (by first | exact Nat.le_of_ble_eq_true rfl | decide | omega) rfl rfl) ?_
        | refine TL.does none rfl rfl rfl (Does.store (i := 1) rfl rfl rfl sz3 rfl rfl (by first | exact Nat.le_of_ble_eq_true rfl | decide | omega) rfl rfl) ?_
        | refine TL.does none rfl rfl rfl (Does.store (i := 2) rfl rfl rfl sz3 rfl rfl (by first | exact Nat.le_of_ble_eq_true rfl | decide | omega) rfl rfl) ?_
        | refine TL.does none rfl rfl rfl (Does.store (i := 3) rfl rfl rfl sz3 rfl rfl (by first | exact Nat.le_of_ble_eq_true rfl | decide | omega) rfl rfl) ?_
        | refine TL.does none rfl rfl rfl (Does.store (i := 4) rfl rfl rfl sz3 rfl rfl (by first | exact Nat.le_of_ble_eq_true rfl | decide | omega) rfl rfl) ?_
        | refine TL.does none rfl rfl rfl (Does.store (i := 5) rfl rfl rfl sz3 rfl rfl (by first | exact Nat.le_of_ble_eq_true rfl | decide | omega) rfl rfl) ?_
      rintro _ _ ⟨rfl, rfl⟩
      refine TL.nil ?_
      refine AtX.then ?_
      refine TC.env (E' := [(2, _), (3, _), (4, _)]) (Sub.cons rfl (Sub.cons rfl (Sub.cons rfl (Sub.nil _)))) ?_
      refine TC.seq ?_
      refine TC.heap (M' := (b3, .cells #[.int .i64 (3 * a0 + 1 + a1), .int .i64 (a0), .int .i64 (1), .int .i64 (3), .int .i64 (2), .int .i64 (2), .int .i64 (32), .int .i64 (1000), .int .i64 (0), .int .i64 (0), .int .i64 (0), .int .i64 (100), .int .i64 (1), .int .i64 (100), .int .i64 (0), .int .i64 (3), .int .i64 (4), .int .i64 (100), .int .i64 (4), .int .i64 (50), .int .i64 (2), .int .i64 (100), .int .i64 (3), .int .i64 (4), .int .i64 (256), .int .u64 (1)] 26 (0, 0)) :: (b4, .cells #[.int .i64 q0, .int .i64 q1, .int .i64 q2, .int .i64 q3, .int .i64 q4, .int .i64 q5, .int .i64 q6, .int .i64 q7, .int .i64 q8, .int .i64 q9, .int .i64 q10, .int .i64 q11, .int .i64 q12, .int .i64 q13, .int .i64 q14, .int .i64 q15, .int .i64 q16, .int .i64 q17, .int .i64 q18, .int .i64 q19] 83 (0, 0)) :: (b1, .cells #[.int .i64 (0), .int .i64 (0), .int .i64 (0), .int .i64 (0), .int .i64 (0), .int .i64 (0), .int .i64 (0), .int .i64 (0), .int .i64 (0), .int .i64 (0), .int .i64 (0), .int .i64 (0), .int .i64 (0), .int .i64 (0), .int .i64 (0), .int .i64 (0), .int .i64 (0), .int .i64 (0), .int .i64 (0), .int .i64 (0), .int .i64 (0), .int .i64 (0), .int .i64 (0), .int .i64 (0), .int .i64 (0), .int .u64 (0)] 26 (0, 0)) :: M) (fun w h => h) ?_
      refine TC.region ?_
      refine TL.val rfl rfl (Nat.le_of_ble_eq_true rfl) (Val.indexAddrA (i := 2) rfl rfl ar83 sz3 rfl (by first | decide | omega) rfl) ?_
      first
        | refine TL.val rfl rfl (Nat.le_of_ble_eq_true rfl) (Val.load 0 rfl ag3 rfl rfl) ?_
        | refine TL.val rfl rfl (Nat.le_of_ble_eq_true rfl) (Val.load 1 rfl ag3 rfl rfl) ?_
        | refine TL.val rfl rfl (Nat.le_of_ble_eq_true rfl) (Val.load 2 rfl ag3 rfl rfl) ?_
        | refine TL.val rfl rfl (Nat.le_of_ble_eq_true rfl) (Val.load 3 rfl ag3 rfl rfl) ?_
        | refine TL.val rfl rfl (Nat.le_of_ble_eq_true rfl) (Val.load 4 rfl ag3 rfl rfl) ?_
        | refine TL.val rfl rfl (Nat.le_of_ble_eq_true rfl) (Val.load 5 rfl ag3 rfl rfl) ?_
      refine TL.val rfl rfl (Nat.le_of_ble_eq_true rfl) (Val.rem rfl rfl (by first | decide | omega) (r := a2) ha2) ?_
      first
        | refine TL.val rfl rfl (Nat.le_of_ble_eq_true rfl) (Val.add rfl rfl (w_i64 (by omega) (by omega))) ?_
        | refine TL.val rfl rfl (Nat.le_of_ble_eq_true rfl) (Val.add rfl rfl rfl) ?_
      refine TL.val rfl rfl (Nat.le_of_ble_eq_true rfl) (Val.fieldAddr rfl fl26_2 sz3 rfl) ?_
      first
        | refine TL.does none rfl rfl rfl (Does.store (i := 0) rfl rfl rfl sz3 rfl rfl (by first | exact Nat.le_of_ble_eq_true rfl | decide | omega) rfl rfl) ?_
        | refine TL.does none rfl rfl rfl (Does.store (i := 1) rfl rfl rfl sz3 rfl rfl (by first | exact Nat.le_of_ble_eq_true rfl | decide | omega) rfl rfl) ?_
        | refine TL.does none rfl rfl rfl (Does.store (i := 2) rfl rfl rfl sz3 rfl rfl (by first | exact Nat.le_of_ble_eq_true rfl | decide | omega) rfl rfl) ?_
        | refine TL.does none rfl rfl rfl (Does.store (i := 3) rfl rfl rfl sz3 rfl rfl (by first | exact Nat.le_of_ble_eq_true rfl | decide | omega) rfl rfl) ?_
        | refine TL.does none rfl rfl rfl (Does.store (i := 4) rfl rfl rfl sz3 rfl rfl (by first | exact Nat.le_of_ble_eq_true rfl | decide | omega) rfl rfl) ?_
        | refine TL.does none rfl rfl rfl (Does.store (i := 5) rfl rfl rfl sz3 rfl rfl (by first | exact Nat.le_of_ble_eq_true rfl | decide | omega) rfl rfl) ?_
      rintro _ _ ⟨rfl, rfl⟩
      refine TL.nil ?_
      refine AtX.then ?_
      refine TC.env (E' := [(2, _), (3, _), (4, _)]) (Sub.cons rfl (Sub.cons rfl (Sub.cons rfl (Sub.nil _)))) ?_
      refine TC.seq ?_
      refine TC.heap (M' := (b3, .cells #[.int .i64 (3 * a0 + 1 + a1), .int .i64 (a0), .int .i64 (1 + a2), .int .i64 (3), .int .i64 (2), .int .i64 (2), .int .i64 (32), .int .i64 (1000), .int .i64 (0), .int .i64 (0), .int .i64 (0), .int .i64 (100), .int .i64 (1), .int .i64 (100), .int .i64 (0), .int .i64 (3), .int .i64 (4), .int .i64 (100), .int .i64 (4), .int .i64 (50), .int .i64 (2), .int .i64 (100), .int .i64 (3), .int .i64 (4), .int .i64 (256), .int .u64 (1)] 26 (0, 0)) :: (b4, .cells #[.int .i64 q0, .int .i64 q1, .int .i64 q2, .int .i64 q3, .int .i64 q4, .int .i64 q5, .int .i64 q6, .int .i64 q7, .int .i64 q8, .int .i64 q9, .int .i64 q10, .int .i64 q11, .int .i64 q12, .int .i64 q13, .int .i64 q14, .int .i64 q15, .int .i64 q16, .int .i64 q17, .int .i64 q18, .int .i64 q19] 83 (0, 0)) :: (b1, .cells #[.int .i64 (0), .int .i64 (0), .int .i64 (0), .int .i64 (0), .int .i64 (0), .int .i64 (0), .int .i64 (0), .int .i64 (0), .int .i64 (0), .int .i64 (0), .int .i64 (0), .int .i64 (0), .int .i64 (0), .int .i64 (0), .int .i64 (0), .int .i64 (0), .int .i64 (0), .int .i64 (0), .int .i64 (0), .int .i64 (0), .int .i64 (0), .int .i64 (0), .int .i64 (0), .int .i64 (0), .int .i64 (0), .int .u64 (0)] 26 (0, 0)) :: M) (fun w h => h) ?_
      refine TC.drawG [15] ((b4, .cells #[.int .i64 q0, .int .i64 q1, .int .i64 q2, .int .i64 q3, .int .i64 q4, .int .i64 q5, .int .i64 q6, .int .i64 q7, .int .i64 q8, .int .i64 q9, .int .i64 q10, .int .i64 q11, .int .i64 q12, .int .i64 q13, .int .i64 q14, .int .i64 q15, .int .i64 q16, .int .i64 q17, .int .i64 q18, .int .i64 q19] 83 (0, 0)) :: (b1, .cells #[.int .i64 (0), .int .i64 (0), .int .i64 (0), .int .i64 (0), .int .i64 (0), .int .i64 (0), .int .i64 (0), .int .i64 (0), .int .i64 (0), .int .i64 (0), .int .i64 (0), .int .i64 (0), .int .i64 (0), .int .i64 (0), .int .i64 (0), .int .i64 (0), .int .i64 (0), .int .i64 (0), .int .i64 (0), .int .i64 (0), .int .i64 (0), .int .i64 (0), .int .i64 (0), .int .i64 (0), .int .i64 (0), .int .u64 (0)] 26 (0, 0)) :: M) mixed 16 ?_
      refine TG.tk false 0 1 rfl rfl rfl (Val.fieldAddr rfl fl26_1 sz3 rfl) ?_
      first
        | refine TG.tk false 1 3 rfl rfl rfl (Val.load 0 rfl ag3 rfl rfl) ?_
        | refine TG.tk false 1 3 rfl rfl rfl (Val.load 1 rfl ag3 rfl rfl) ?_
        | refine TG.tk false 1 3 rfl rfl rfl (Val.load 2 rfl ag3 rfl rfl) ?_
        | refine TG.tk false 1 3 rfl rfl rfl (Val.load 3 rfl ag3 rfl rfl) ?_
        | refine TG.tk false 1 3 rfl rfl rfl (Val.load 4 rfl ag3 rfl rfl) ?_
        | refine TG.tk false 1 3 rfl rfl rfl (Val.load 5 rfl ag3 rfl rfl) ?_
      first
        | refine TG.tk false 2 7 rfl rfl rfl (Val.mul rfl rfl (w_i64 (by omega) (by omega))) ?_
        | refine TG.tk false 2 7 rfl rfl rfl (Val.mul rfl rfl rfl) ?_
      first
        | refine TG.tk false 3 15 rfl rfl rfl (Val.add rfl rfl (w_i64 (by omega) (by omega))) ?_
        | refine TG.tk false 3 15 rfl rfl rfl (Val.add rfl rfl rfl) ?_
      refine TG.tk false 4 31 rfl rfl rfl (Val.indexAddrA (i := 3) rfl rfl ar83 sz3 rfl (by first | decide | omega) rfl) ?_
      first
        | refine TG.tk false 5 63 rfl rfl rfl (Val.load 0 rfl ag3 rfl rfl) ?_
        | refine TG.tk false 5 63 rfl rfl rfl (Val.load 1 rfl ag3 rfl rfl) ?_
        | refine TG.tk false 5 63 rfl rfl rfl (Val.load 2 rfl ag3 rfl rfl) ?_
        | refine TG.tk false 5 63 rfl rfl rfl (Val.load 3 rfl ag3 rfl rfl) ?_
        | refine TG.tk false 5 63 rfl rfl rfl (Val.load 4 rfl ag3 rfl rfl) ?_
        | refine TG.tk false 5 63 rfl rfl rfl (Val.load 5 rfl ag3 rfl rfl) ?_
      refine TG.tk false 6 127 rfl rfl rfl (Val.fieldAddr rfl fl26_0 sz3 rfl) ?_
      first
        | refine TG.tk false 7 255 rfl rfl rfl (Val.load 0 rfl ag3 rfl rfl) ?_
        | refine TG.tk false 7 255 rfl rfl rfl (Val.load 1 rfl ag3 rfl rfl) ?_
        | refine TG.tk false 7 255 rfl rfl rfl (Val.load 2 rfl ag3 rfl rfl) ?_
        | refine TG.tk false 7 255 rfl rfl rfl (Val.load 3 rfl ag3 rfl rfl) ?_
        | refine TG.tk false 7 255 rfl rfl rfl (Val.load 4 rfl ag3 rfl rfl) ?_
        | refine TG.tk false 7 255 rfl rfl rfl (Val.load 5 rfl ag3 rfl rfl) ?_
      refine TG.tk false 8 511 rfl rfl rfl (Val.fieldAddr rfl fl26_1 sz3 rfl) ?_
      first
        | refine TG.tk false 9 1023 rfl rfl rfl (Val.load 0 rfl ag3 rfl rfl) ?_
        | refine TG.tk false 9 1023 rfl rfl rfl (Val.load 1 rfl ag3 rfl rfl) ?_
        | refine TG.tk false 9 1023 rfl rfl rfl (Val.load 2 rfl ag3 rfl rfl) ?_
        | refine TG.tk false 9 1023 rfl rfl rfl (Val.load 3 rfl ag3 rfl rfl) ?_
        | refine TG.tk false 9 1023 rfl rfl rfl (Val.load 4 rfl ag3 rfl rfl) ?_
        | refine TG.tk false 9 1023 rfl rfl rfl (Val.load 5 rfl ag3 rfl rfl) ?_
      first
        | refine TG.tk false 10 2047 rfl rfl rfl (Val.mul rfl rfl (w_i64 (by omega) (by omega))) ?_
        | refine TG.tk false 10 2047 rfl rfl rfl (Val.mul rfl rfl rfl) ?_
      first
        | refine TG.tk false 11 4095 rfl rfl rfl (Val.sub rfl rfl (w_i64 (by omega) (by omega))) ?_
        | refine TG.tk false 11 4095 rfl rfl rfl (Val.sub rfl rfl rfl) ?_
      refine TG.tk false 12 8191 rfl rfl rfl (Val.rem rfl rfl (by first | decide | omega) (r := a3) ha3) ?_
      first
        | refine TG.tk false 13 16383 rfl rfl rfl (Val.add rfl rfl (w_i64 (by omega) (by omega))) ?_
        | refine TG.tk false 13 16383 rfl rfl rfl (Val.add rfl rfl rfl) ?_
      refine TG.tk false 14 32767 rfl rfl rfl (Val.fieldAddr rfl fl26_3 sz3 rfl) ?_
      refine TG.one 15 (by kernel_rfl) ?_
      first
        | refine TP.dz true 65535 none rfl rfl rfl rfl (Does.store (i := 0) rfl rfl rfl sz3 rfl rfl (by first | exact Nat.le_of_ble_eq_true rfl | decide | omega) rfl rfl) ?_
        | refine TP.dz true 65535 none rfl rfl rfl rfl (Does.store (i := 1) rfl rfl rfl sz3 rfl rfl (by first | exact Nat.le_of_ble_eq_true rfl | decide | omega) rfl rfl) ?_
        | refine TP.dz true 65535 none rfl rfl rfl rfl (Does.store (i := 2) rfl rfl rfl sz3 rfl rfl (by first | exact Nat.le_of_ble_eq_true rfl | decide | omega) rfl rfl) ?_
        | refine TP.dz true 65535 none rfl rfl rfl rfl (Does.store (i := 3) rfl rfl rfl sz3 rfl rfl (by first | exact Nat.le_of_ble_eq_true rfl | decide | omega) rfl rfl) ?_
        | refine TP.dz true 65535 none rfl rfl rfl rfl (Does.store (i := 4) rfl rfl rfl sz3 rfl rfl (by first | exact Nat.le_of_ble_eq_true rfl | decide | omega) rfl rfl) ?_
        | refine TP.dz true 65535 none rfl rfl rfl rfl (Does.store (i := 5) rfl rfl rfl sz3 rfl rfl (by first | exact Nat.le_of_ble_eq_true rfl | decide | omega) rfl rfl) ?_
      rintro _ _ ⟨rfl, rfl⟩
      refine roK ?_
      refine TG.done (by kernel_rfl) ?_ _
      refine AtX.then ?_
      refine TC.env (E' := [(2, _), (3, _), (4, _)]) (Sub.cons rfl (Sub.cons rfl (Sub.cons rfl (Sub.nil _)))) ?_
      refine TC.seq ?_
      refine TC.heap (M' := (b3, .cells #[.int .i64 (3 * a0 + 1 + a1), .int .i64 (a0), .int .i64 (1 + a2), .int .i64 (2 * a0 + 1 + a3), .int .i64 (2), .int .i64 (2), .int .i64 (32), .int .i64 (1000), .int .i64 (0), .int .i64 (0), .int .i64 (0), .int .i64 (100), .int .i64 (1), .int .i64 (100), .int .i64 (0), .int .i64 (3), .int .i64 (4), .int .i64 (100), .int .i64 (4), .int .i64 (50), .int .i64 (2), .int .i64 (100), .int .i64 (3), .int .i64 (4), .int .i64 (256), .int .u64 (1)] 26 (0, 0)) :: (b4, .cells #[.int .i64 q0, .int .i64 q1, .int .i64 q2, .int .i64 q3, .int .i64 q4, .int .i64 q5, .int .i64 q6, .int .i64 q7, .int .i64 q8, .int .i64 q9, .int .i64 q10, .int .i64 q11, .int .i64 q12, .int .i64 q13, .int .i64 q14, .int .i64 q15, .int .i64 q16, .int .i64 q17, .int .i64 q18, .int .i64 q19] 83 (0, 0)) :: (b1, .cells #[.int .i64 (0), .int .i64 (0), .int .i64 (0), .int .i64 (0), .int .i64 (0), .int .i64 (0), .int .i64 (0), .int .i64 (0), .int .i64 (0), .int .i64 (0), .int .i64 (0), .int .i64 (0), .int .i64 (0), .int .i64 (0), .int .i64 (0), .int .i64 (0), .int .i64 (0), .int .i64 (0), .int .i64 (0), .int .i64 (0), .int .i64 (0), .int .i64 (0), .int .i64 (0), .int .i64 (0), .int .i64 (0), .int .u64 (0)] 26 (0, 0)) :: M) (fun w h => h) ?_
      refine TC.drawL ((b4, .cells #[.int .i64 q0, .int .i64 q1, .int .i64 q2, .int .i64 q3, .int .i64 q4, .int .i64 q5, .int .i64 q6, .int .i64 q7, .int .i64 q8, .int .i64 q9, .int .i64 q10, .int .i64 q11, .int .i64 q12, .int .i64 q13, .int .i64 q14, .int .i64 q15, .int .i64 q16, .int .i64 q17, .int .i64 q18, .int .i64 q19] 83 (0, 0)) :: (b1, .cells #[.int .i64 (0), .int .i64 (0), .int .i64 (0), .int .i64 (0), .int .i64 (0), .int .i64 (0), .int .i64 (0), .int .i64 (0), .int .i64 (0), .int .i64 (0), .int .i64 (0), .int .i64 (0), .int .i64 (0), .int .i64 (0), .int .i64 (0), .int .i64 (0), .int .i64 (0), .int .i64 (0), .int .i64 (0), .int .i64 (0), .int .i64 (0), .int .i64 (0), .int .i64 (0), .int .i64 (0), .int .i64 (0), .int .u64 (0)] 26 (0, 0)) :: M) mixed 18 ?_
      refine TA.tk 0 1 rfl rfl rfl (Val.indexAddrA (i := 4) rfl rfl ar83 sz3 rfl (by first | decide | omega) rfl) ?_
      first
        | refine TA.tk 1 3 rfl rfl rfl (Val.load 0 rfl ag3 rfl rfl) ?_
        | refine TA.tk 1 3 rfl rfl rfl (Val.load 1 rfl ag3 rfl rfl) ?_
        | refine TA.tk 1 3 rfl rfl rfl (Val.load 2 rfl ag3 rfl rfl) ?_
        | refine TA.tk 1 3 rfl rfl rfl (Val.load 3 rfl ag3 rfl rfl) ?_
        | refine TA.tk 1 3 rfl rfl rfl (Val.load 4 rfl ag3 rfl rfl) ?_
        | refine TA.tk 1 3 rfl rfl rfl (Val.load 5 rfl ag3 rfl rfl) ?_
      refine TA.tk 2 7 rfl rfl rfl (Val.rem rfl rfl (by first | decide | omega) (r := a4) ha4) ?_
      first
        | refine TA.tk 3 15 rfl rfl rfl (Val.add rfl rfl (w_i64 (by omega) (by omega))) ?_
        | refine TA.tk 3 15 rfl rfl rfl (Val.add rfl rfl rfl) ?_
      refine TA.tk 4 31 rfl rfl rfl (Val.indexAddrA (i := 5) rfl rfl ar83 sz3 rfl (by first | decide | omega) rfl) ?_
      first
        | refine TA.tk 5 63 rfl rfl rfl (Val.load 0 rfl ag3 rfl rfl) ?_
        | refine TA.tk 5 63 rfl rfl rfl (Val.load 1 rfl ag3 rfl rfl) ?_
        | refine TA.tk 5 63 rfl rfl rfl (Val.load 2 rfl ag3 rfl rfl) ?_
        | refine TA.tk 5 63 rfl rfl rfl (Val.load 3 rfl ag3 rfl rfl) ?_
        | refine TA.tk 5 63 rfl rfl rfl (Val.load 4 rfl ag3 rfl rfl) ?_
        | refine TA.tk 5 63 rfl rfl rfl (Val.load 5 rfl ag3 rfl rfl) ?_
      refine TA.tk 6 127 rfl rfl rfl (Val.rem rfl rfl (by first | decide | omega) (r := a5) ha5) ?_
      first
        | refine TA.tk 7 255 rfl rfl rfl (Val.add rfl rfl (w_i64 (by omega) (by omega))) ?_
        | refine TA.tk 7 255 rfl rfl rfl (Val.add rfl rfl rfl) ?_
      refine TA.tk 8 511 rfl rfl rfl (Val.indexAddrA (i := 6) rfl rfl ar83 sz3 rfl (by first | decide | omega) rfl) ?_
      first
        | refine TA.tk 9 1023 rfl rfl rfl (Val.load 0 rfl ag3 rfl rfl) ?_
        | refine TA.tk 9 1023 rfl rfl rfl (Val.load 1 rfl ag3 rfl rfl) ?_
        | refine TA.tk 9 1023 rfl rfl rfl (Val.load 2 rfl ag3 rfl rfl) ?_
        | refine TA.tk 9 1023 rfl rfl rfl (Val.load 3 rfl ag3 rfl rfl) ?_
        | refine TA.tk 9 1023 rfl rfl rfl (Val.load 4 rfl ag3 rfl rfl) ?_
        | refine TA.tk 9 1023 rfl rfl rfl (Val.load 5 rfl ag3 rfl rfl) ?_
      refine TA.tk 10 2047 rfl rfl rfl (Val.rem rfl rfl (by first | decide | omega) (r := a6) ha6) ?_
      first
        | refine TA.tk 11 4095 rfl rfl rfl (Val.add rfl rfl (w_i64 (by omega) (by omega))) ?_
        | refine TA.tk 11 4095 rfl rfl rfl (Val.add rfl rfl rfl) ?_
      refine TA.tk 12 8191 rfl rfl rfl (Val.fieldAddr rfl fl26_4 sz3 rfl) ?_
      refine TA.one 13 (by kernel_rfl) ?_
      first
        | refine TO.dz 16383 none rfl rfl rfl rfl (Does.store (i := 0) rfl rfl rfl sz3 rfl rfl (by first | exact Nat.le_of_ble_eq_true rfl | decide | omega) rfl rfl) ?_
        | refine TO.dz 16383 none rfl rfl rfl rfl (Does.store (i := 1) rfl rfl rfl sz3 rfl rfl (by first | exact Nat.le_of_ble_eq_true rfl | decide | omega) rfl rfl) ?_
        | refine TO.dz 16383 none rfl rfl rfl rfl (Does.store (i := 2) rfl rfl rfl sz3 rfl rfl (by first | exact Nat.le_of_ble_eq_true rfl | decide | omega) rfl rfl) ?_
        | refine TO.dz 16383 none rfl rfl rfl rfl (Does.store (i := 3) rfl rfl rfl sz3 rfl rfl (by first | exact Nat.le_of_ble_eq_true rfl | decide | omega) rfl rfl) ?_
        | refine TO.dz 16383 none rfl rfl rfl rfl (Does.store (i := 4) rfl rfl rfl sz3 rfl rfl (by first | exact Nat.le_of_ble_eq_true rfl | decide | omega) rfl rfl) ?_
        | refine TO.dz 16383 none rfl rfl rfl rfl (Does.store (i := 5) rfl rfl rfl sz3 rfl rfl (by first | exact Nat.le_of_ble_eq_true rfl | decide | omega) rfl rfl) ?_
      rintro _ _ ⟨rfl, rfl⟩
      refine roK ?_
      refine TA.tk 14 32767 rfl rfl rfl (Val.fieldAddr rfl fl26_5 sz3 rfl) ?_
      refine TA.one 15 (by kernel_rfl) ?_
      first
        | refine TO.dz 65535 none rfl rfl rfl rfl (Does.store (i := 0) rfl rfl rfl sz3 rfl rfl (by first | exact Nat.le_of_ble_eq_true rfl | decide | omega) rfl rfl) ?_
        | refine TO.dz 65535 none rfl rfl rfl rfl (Does.store (i := 1) rfl rfl rfl sz3 rfl rfl (by first | exact Nat.le_of_ble_eq_true rfl | decide | omega) rfl rfl) ?_
        | refine TO.dz 65535 none rfl rfl rfl rfl (Does.store (i := 2) rfl rfl rfl sz3 rfl rfl (by first | exact Nat.le_of_ble_eq_true rfl | decide | omega) rfl rfl) ?_
        | refine TO.dz 65535 none rfl rfl rfl rfl (Does.store (i := 3) rfl rfl rfl sz3 rfl rfl (by first | exact Nat.le_of_ble_eq_true rfl | decide | omega) rfl rfl) ?_
        | refine TO.dz 65535 none rfl rfl rfl rfl (Does.store (i := 4) rfl rfl rfl sz3 rfl rfl (by first | exact Nat.le_of_ble_eq_true rfl | decide | omega) rfl rfl) ?_
        | refine TO.dz 65535 none rfl rfl rfl rfl (Does.store (i := 5) rfl rfl rfl sz3 rfl rfl (by first | exact Nat.le_of_ble_eq_true rfl | decide | omega) rfl rfl) ?_
      rintro _ _ ⟨rfl, rfl⟩
      refine roK ?_
      refine TA.tk 16 131071 rfl rfl rfl (Val.fieldAddr rfl fl26_6 sz3 rfl) ?_
      refine TA.one 17 (by kernel_rfl) ?_
      first
        | refine TO.dz 262143 none rfl rfl rfl rfl (Does.store (i := 0) rfl rfl rfl sz3 rfl rfl (by first | exact Nat.le_of_ble_eq_true rfl | decide | omega) rfl rfl) ?_
        | refine TO.dz 262143 none rfl rfl rfl rfl (Does.store (i := 1) rfl rfl rfl sz3 rfl rfl (by first | exact Nat.le_of_ble_eq_true rfl | decide | omega) rfl rfl) ?_
        | refine TO.dz 262143 none rfl rfl rfl rfl (Does.store (i := 2) rfl rfl rfl sz3 rfl rfl (by first | exact Nat.le_of_ble_eq_true rfl | decide | omega) rfl rfl) ?_
        | refine TO.dz 262143 none rfl rfl rfl rfl (Does.store (i := 3) rfl rfl rfl sz3 rfl rfl (by first | exact Nat.le_of_ble_eq_true rfl | decide | omega) rfl rfl) ?_
        | refine TO.dz 262143 none rfl rfl rfl rfl (Does.store (i := 4) rfl rfl rfl sz3 rfl rfl (by first | exact Nat.le_of_ble_eq_true rfl | decide | omega) rfl rfl) ?_
        | refine TO.dz 262143 none rfl rfl rfl rfl (Does.store (i := 5) rfl rfl rfl sz3 rfl rfl (by first | exact Nat.le_of_ble_eq_true rfl | decide | omega) rfl rfl) ?_
      rintro _ _ ⟨rfl, rfl⟩
      refine roK ?_
      refine TA.done (by kernel_rfl) ?_
      refine AtX.then ?_
      refine TC.env (E' := [(2, _), (3, _), (4, _)]) (Sub.cons rfl (Sub.cons rfl (Sub.cons rfl (Sub.nil _)))) ?_
      refine TC.seq ?_
      refine TC.heap (M' := (b3, .cells #[.int .i64 (3 * a0 + 1 + a1), .int .i64 (a0), .int .i64 (1 + a2), .int .i64 (2 * a0 + 1 + a3), .int .i64 (1 + a4), .int .i64 (1 + a5), .int .i64 (1 + a6), .int .i64 (1000), .int .i64 (0), .int .i64 (0), .int .i64 (0), .int .i64 (100), .int .i64 (1), .int .i64 (100), .int .i64 (0), .int .i64 (3), .int .i64 (4), .int .i64 (100), .int .i64 (4), .int .i64 (50), .int .i64 (2), .int .i64 (100), .int .i64 (3), .int .i64 (4), .int .i64 (256), .int .u64 (1)] 26 (0, 0)) :: (b4, .cells #[.int .i64 q0, .int .i64 q1, .int .i64 q2, .int .i64 q3, .int .i64 q4, .int .i64 q5, .int .i64 q6, .int .i64 q7, .int .i64 q8, .int .i64 q9, .int .i64 q10, .int .i64 q11, .int .i64 q12, .int .i64 q13, .int .i64 q14, .int .i64 q15, .int .i64 q16, .int .i64 q17, .int .i64 q18, .int .i64 q19] 83 (0, 0)) :: (b1, .cells #[.int .i64 (0), .int .i64 (0), .int .i64 (0), .int .i64 (0), .int .i64 (0), .int .i64 (0), .int .i64 (0), .int .i64 (0), .int .i64 (0), .int .i64 (0), .int .i64 (0), .int .i64 (0), .int .i64 (0), .int .i64 (0), .int .i64 (0), .int .i64 (0), .int .i64 (0), .int .i64 (0), .int .i64 (0), .int .i64 (0), .int .i64 (0), .int .i64 (0), .int .i64 (0), .int .i64 (0), .int .i64 (0), .int .u64 (0)] 26 (0, 0)) :: M) (fun w h => h) ?_
      refine TC.region ?_
      refine TL.val rfl rfl (Nat.le_of_ble_eq_true rfl) (Val.fieldAddr rfl fl26_7 sz23 rfl) ?_
      refine TL.val rfl rfl (Nat.le_of_ble_eq_true rfl) (Val.indexAddrA (i := 1) rfl rfl ar23 sz2 rfl (by first | decide | omega) rfl) ?_
      first
        | refine TL.does none rfl rfl rfl (Does.store (i := 0) rfl rfl rfl sz2 rfl rfl (by first | exact Nat.le_of_ble_eq_true rfl | decide | omega) rfl rfl) ?_
        | refine TL.does none rfl rfl rfl (Does.store (i := 1) rfl rfl rfl sz2 rfl rfl (by first | exact Nat.le_of_ble_eq_true rfl | decide | omega) rfl rfl) ?_
        | refine TL.does none rfl rfl rfl (Does.store (i := 2) rfl rfl rfl sz2 rfl rfl (by first | exact Nat.le_of_ble_eq_true rfl | decide | omega) rfl rfl) ?_
        | refine TL.does none rfl rfl rfl (Does.store (i := 3) rfl rfl rfl sz2 rfl rfl (by first | exact Nat.le_of_ble_eq_true rfl | decide | omega) rfl rfl) ?_
        | refine TL.does none rfl rfl rfl (Does.store (i := 4) rfl rfl rfl sz2 rfl rfl (by first | exact Nat.le_of_ble_eq_true rfl | decide | omega) rfl rfl) ?_
        | refine TL.does none rfl rfl rfl (Does.store (i := 5) rfl rfl rfl sz2 rfl rfl (by first | exact Nat.le_of_ble_eq_true rfl | decide | omega) rfl rfl) ?_
      rintro _ _ ⟨rfl, rfl⟩
      refine TL.nil ?_
      refine AtX.then ?_
      refine TC.env (E' := [(2, _), (3, _), (4, _)]) (Sub.cons rfl (Sub.cons rfl (Sub.cons rfl (Sub.nil _)))) ?_
      refine TC.seq ?_
      refine TC.seq ?_
      refine TC.region ?_
      refine TL.val rfl rfl (Nat.le_of_ble_eq_true rfl) (Val.assign rfl) ?_
      refine TL.nil ?_
      refine AtX.then ?_
      refine TC.env (E' := [(2, _), (3, _), (4, _), (6, _)]) (Sub.cons rfl (Sub.cons rfl (Sub.cons rfl (Sub.cons rfl (Sub.nil _))))) ?_
      refine TC.block ?_
      refine TC.loop (ι := Nat) (fun i => [(2, .pointer (some ⟨b1, 0, none⟩)), (3, .pointer (some ⟨b3, 0, none⟩)), (4, .pointer (some ⟨b4, 0, none⟩)), (6, .int .i64 (i : Nat))]) (fun i => (b3, .cells #[.int .i64 (3 * a0 + 1 + a1), .int .i64 (a0), .int .i64 (1 + a2), .int .i64 (2 * a0 + 1 + a3), .int .i64 (1 + a4), .int .i64 (1 + a5), .int .i64 (1 + a6), .int .i64 (if 0 < i then 1 + a7 else 1000), .int .i64 (if 1 < i then 1 + a8 else 0), .int .i64 (0), .int .i64 (0), .int .i64 (100), .int .i64 (1), .int .i64 (100), .int .i64 (0), .int .i64 (3), .int .i64 (4), .int .i64 (100), .int .i64 (4), .int .i64 (50), .int .i64 (2), .int .i64 (100), .int .i64 (3), .int .i64 (4), .int .i64 (256), .int .u64 (1)] 26 (0, 0)) :: (b4, .cells #[.int .i64 q0, .int .i64 q1, .int .i64 q2, .int .i64 q3, .int .i64 q4, .int .i64 q5, .int .i64 q6, .int .i64 q7, .int .i64 q8, .int .i64 q9, .int .i64 q10, .int .i64 q11, .int .i64 q12, .int .i64 q13, .int .i64 q14, .int .i64 q15, .int .i64 q16, .int .i64 q17, .int .i64 q18, .int .i64 q19] 83 (0, 0)) :: (b1, .cells #[.int .i64 (0), .int .i64 (0), .int .i64 (0), .int .i64 (0), .int .i64 (0), .int .i64 (0), .int .i64 (0), .int .i64 (0), .int .i64 (0), .int .i64 (0), .int .i64 (0), .int .i64 (0), .int .i64 (0), .int .i64 (0), .int .i64 (0), .int .i64 (0), .int .i64 (0), .int .i64 (0), .int .i64 (0), .int .i64 (0), .int .i64 (0), .int .i64 (0), .int .i64 (0), .int .i64 (0), .int .i64 (0), .int .u64 (0)] 26 (0, 0)) :: M) (fun i => (i : Int) ≤ 1 + a2) (fun i => 2 - i) 0 ?_ (Sub.cons rfl (Sub.cons rfl (Sub.cons rfl (Sub.cons rfl (Sub.nil _))))) (fun _ h => h) ?_
      · show ((0 : Nat) : Int) ≤ 1 + a2; omega
      intro i hi
      refine TC.seq ?_
      refine TC.seq ?_
      refine TC.region ?_
      refine TL.val rfl rfl (Nat.le_of_ble_eq_true rfl) (Val.move rfl) ?_
      refine TL.val rfl rfl (Nat.le_of_ble_eq_true rfl) (Val.fieldAddr rfl fl26_2 sz3 rfl) ?_
      first
        | refine TL.val rfl rfl (Nat.le_of_ble_eq_true rfl) (Val.load 0 rfl ag3 rfl rfl) ?_
        | refine TL.val rfl rfl (Nat.le_of_ble_eq_true rfl) (Val.load 1 rfl ag3 rfl rfl) ?_
        | refine TL.val rfl rfl (Nat.le_of_ble_eq_true rfl) (Val.load 2 rfl ag3 rfl rfl) ?_
        | refine TL.val rfl rfl (Nat.le_of_ble_eq_true rfl) (Val.load 3 rfl ag3 rfl rfl) ?_
        | refine TL.val rfl rfl (Nat.le_of_ble_eq_true rfl) (Val.load 4 rfl ag3 rfl rfl) ?_
        | refine TL.val rfl rfl (Nat.le_of_ble_eq_true rfl) (Val.load 5 rfl ag3 rfl rfl) ?_
      refine TL.val rfl rfl (Nat.le_of_ble_eq_true rfl) (Val.lss rfl rfl) ?_
      refine TL.nil ?_
      refine AtX.then ?_
      first | refine TC.condP rfl (fun c3 => ?_) (fun c3 => ?_) | refine TC.condN rfl (fun c3 => ?_) (fun c3 => ?_) | refine TC.condB rfl (fun c3 => ?_) (fun c3 => ?_) | refine TC.cond rfl (fun c3 => ?_) (fun c3 => ?_)
      · skip
        refine TC.skip ?_
        refine AtX.then ?_
        refine TC.seq ?_
        refine TC.block ?_
        have hi01 : i = 0 ∨ i = 1 := by omega
        refine TC.region ?_
        refine TL.val rfl rfl (Nat.le_of_ble_eq_true rfl) (Val.move rfl) ?_
        refine TL.val rfl rfl (Nat.le_of_ble_eq_true rfl) (Val.move rfl) ?_
        refine TL.val rfl rfl (Nat.le_of_ble_eq_true rfl) (Val.add rfl rfl (r := ((7 + i : Nat) : Int)) (by rw [w_i64 (by omega) (by omega)]; push_cast; rfl)) ?_
        refine TL.val rfl rfl (Nat.le_of_ble_eq_true rfl) (Val.indexAddrA (i := 7 + i) (r := 7 + i) rfl rfl ar83 sz3 rfl (by omega) (by omega)) ?_
        refine TL.val rfl rfl (Nat.le_of_ble_eq_true rfl) (Val.load 1 rfl ag3 rfl (v := .int .i64 (if i = 0 then q7 else q8)) (by rcases hi01 with rfl | rfl <;> rfl)) ?_
        refine TL.val rfl rfl (Nat.le_of_ble_eq_true rfl) (Val.rem rfl rfl (by decide) (r := if i = 0 then a7 else a8) (by rcases hi01 with rfl | rfl <;> assumption)) ?_
        refine TL.val rfl rfl (Nat.le_of_ble_eq_true rfl) (Val.add rfl rfl (r := 1 + (if i = 0 then a7 else a8)) (w_i64 (by split <;> omega) (by split <;> omega))) ?_
        refine TL.val rfl rfl (Nat.le_of_ble_eq_true rfl) (Val.fieldAddr rfl fl26_7 sz23 rfl) ?_
        refine TL.val rfl rfl (Nat.le_of_ble_eq_true rfl) (Val.indexAddrA (i := i) (r := 7 + i) rfl rfl ar23 sz2 rfl (by omega) (by omega)) ?_
        refine TL.does none rfl rfl rfl (Does.store (i := 0) (cs' := #[.int .i64 (3 * a0 + 1 + a1), .int .i64 (a0), .int .i64 (1 + a2), .int .i64 (2 * a0 + 1 + a3), .int .i64 (1 + a4), .int .i64 (1 + a5), .int .i64 (1 + a6), .int .i64 (if 0 < i + 1 then 1 + a7 else 1000), .int .i64 (if 1 < i + 1 then 1 + a8 else 0), .int .i64 (0), .int .i64 (0), .int .i64 (100), .int .i64 (1), .int .i64 (100), .int .i64 (0), .int .i64 (3), .int .i64 (4), .int .i64 (100), .int .i64 (4), .int .i64 (50), .int .i64 (2), .int .i64 (100), .int .i64 (3), .int .i64 (4), .int .i64 (256), .int .u64 (1)]) (M' := (b3, .cells #[.int .i64 (3 * a0 + 1 + a1), .int .i64 (a0), .int .i64 (1 + a2), .int .i64 (2 * a0 + 1 + a3), .int .i64 (1 + a4), .int .i64 (1 + a5), .int .i64 (1 + a6), .int .i64 (if 0 < i + 1 then 1 + a7 else 1000), .int .i64 (if 1 < i + 1 then 1 + a8 else 0), .int .i64 (0), .int .i64 (0), .int .i64 (100), .int .i64 (1), .int .i64 (100), .int .i64 (0), .int .i64 (3), .int .i64 (4), .int .i64 (100), .int .i64 (4), .int .i64 (50), .int .i64 (2), .int .i64 (100), .int .i64 (3), .int .i64 (4), .int .i64 (256), .int .u64 (1)] 26 (0, 0)) :: (b4, .cells #[.int .i64 q0, .int .i64 q1, .int .i64 q2, .int .i64 q3, .int .i64 q4, .int .i64 q5, .int .i64 q6, .int .i64 q7, .int .i64 q8, .int .i64 q9, .int .i64 q10, .int .i64 q11, .int .i64 q12, .int .i64 q13, .int .i64 q14, .int .i64 q15, .int .i64 q16, .int .i64 q17, .int .i64 q18, .int .i64 q19] 83 (0, 0)) :: (b1, .cells #[.int .i64 (0), .int .i64 (0), .int .i64 (0), .int .i64 (0), .int .i64 (0), .int .i64 (0), .int .i64 (0), .int .i64 (0), .int .i64 (0), .int .i64 (0), .int .i64 (0), .int .i64 (0), .int .i64 (0), .int .i64 (0), .int .i64 (0), .int .i64 (0), .int .i64 (0), .int .i64 (0), .int .i64 (0), .int .i64 (0), .int .i64 (0), .int .i64 (0), .int .i64 (0), .int .i64 (0), .int .i64 (0), .int .u64 (0)] 26 (0, 0)) :: M) rfl rfl rfl sz2 rfl rfl (by show 7 + i + 1 ≤ 26; omega) (by rcases hi01 with rfl | rfl <;> rfl) rfl) ?_
        rintro _ _ ⟨rfl, rfl⟩
        refine TL.nil ?_
        refine AtX.blk ?_
        refine AtX.then ?_
        refine TC.region ?_
        refine TL.val rfl rfl (Nat.le_of_ble_eq_true rfl) (Val.move rfl) ?_
        first
          | refine TL.val rfl rfl (Nat.le_of_ble_eq_true rfl) (Val.add rfl rfl (w_i64 (by omega) (by omega))) ?_
          | refine TL.val rfl rfl (Nat.le_of_ble_eq_true rfl) (Val.add rfl rfl rfl) ?_
        refine TL.val rfl rfl (Nat.le_of_ble_eq_true rfl) (Val.assign rfl) ?_
        refine TL.nil ?_
        refine AtX.round (i + 1) ?_ ?_ (Sub.cons rfl (Sub.cons rfl (Sub.cons rfl (Sub.cons rfl (Sub.nil _))))) (fun _ h => h)
        · show ((i + 1 : Nat) : Int) ≤ 1 + a2; omega
        · omega
      · skip
        refine TC.exit ?_
        refine AtX.seqX ?_
        refine AtX.seqX ?_
        refine AtX.hit ?_
        refine AtX.then ?_
        refine TC.env (E' := [(2, _), (3, _), (4, _)]) (Sub.cons rfl (Sub.cons rfl (Sub.cons rfl (Sub.nil _)))) ?_
        refine TC.seq ?_
        obtain ⟨T0, hT0⟩ : ∃ T0 : Int, T0 = if 0 < i then 1 + a7 else 1000 := ⟨_, rfl⟩
        obtain ⟨T1, hT1⟩ : ∃ T1 : Int, T1 = if 1 < i then 1 + a8 else 0 := ⟨_, rfl⟩
        rw [← hT0, ← hT1]
        have hT0b : 1 ≤ T0 ∧ T0 ≤ 2000 := by rw [hT0]; split <;> omega
        have hT1b : (1 < 1 + a2 → 1 ≤ T1 ∧ T1 ≤ 2000) ∧ (1 + a2 ≤ 1 → T1 = 0) := by rw [hT1]; split <;> omega
        refine TC.region ?_
        refine TL.val rfl rfl (Nat.le_of_ble_eq_true rfl) (Val.indexAddrA (i := 9) rfl rfl ar83 sz3 rfl (by first | decide | omega) rfl) ?_
        first
          | refine TL.val rfl rfl (Nat.le_of_ble_eq_true rfl) (Val.load 0 rfl ag3 rfl rfl) ?_
          | refine TL.val rfl rfl (Nat.le_of_ble_eq_true rfl) (Val.load 1 rfl ag3 rfl rfl) ?_
          | refine TL.val rfl rfl (Nat.le_of_ble_eq_true rfl) (Val.load 2 rfl ag3 rfl rfl) ?_
          | refine TL.val rfl rfl (Nat.le_of_ble_eq_true rfl) (Val.load 3 rfl ag3 rfl rfl) ?_
          | refine TL.val rfl rfl (Nat.le_of_ble_eq_true rfl) (Val.load 4 rfl ag3 rfl rfl) ?_
          | refine TL.val rfl rfl (Nat.le_of_ble_eq_true rfl) (Val.load 5 rfl ag3 rfl rfl) ?_
        refine TL.val rfl rfl (Nat.le_of_ble_eq_true rfl) (Val.rem rfl rfl (by first | decide | omega) (r := a9) ha9) ?_
        refine TL.val rfl rfl (Nat.le_of_ble_eq_true rfl) (Val.fieldAddr rfl fl26_8 sz3 rfl) ?_
        first
          | refine TL.does none rfl rfl rfl (Does.store (i := 0) rfl rfl rfl sz3 rfl rfl (by first | exact Nat.le_of_ble_eq_true rfl | decide | omega) rfl rfl) ?_
          | refine TL.does none rfl rfl rfl (Does.store (i := 1) rfl rfl rfl sz3 rfl rfl (by first | exact Nat.le_of_ble_eq_true rfl | decide | omega) rfl rfl) ?_
          | refine TL.does none rfl rfl rfl (Does.store (i := 2) rfl rfl rfl sz3 rfl rfl (by first | exact Nat.le_of_ble_eq_true rfl | decide | omega) rfl rfl) ?_
          | refine TL.does none rfl rfl rfl (Does.store (i := 3) rfl rfl rfl sz3 rfl rfl (by first | exact Nat.le_of_ble_eq_true rfl | decide | omega) rfl rfl) ?_
          | refine TL.does none rfl rfl rfl (Does.store (i := 4) rfl rfl rfl sz3 rfl rfl (by first | exact Nat.le_of_ble_eq_true rfl | decide | omega) rfl rfl) ?_
          | refine TL.does none rfl rfl rfl (Does.store (i := 5) rfl rfl rfl sz3 rfl rfl (by first | exact Nat.le_of_ble_eq_true rfl | decide | omega) rfl rfl) ?_
        rintro _ _ ⟨rfl, rfl⟩
        refine TL.nil ?_
        refine AtX.then ?_
        refine TC.env (E' := [(2, _), (3, _), (4, _)]) (Sub.cons rfl (Sub.cons rfl (Sub.cons rfl (Sub.nil _)))) ?_
        refine TC.seq ?_
        refine TC.heap (M' := (b3, .cells #[.int .i64 (3 * a0 + 1 + a1), .int .i64 (a0), .int .i64 (1 + a2), .int .i64 (2 * a0 + 1 + a3), .int .i64 (1 + a4), .int .i64 (1 + a5), .int .i64 (1 + a6), .int .i64 (T0), .int .i64 (T1), .int .i64 (0), .int .i64 (0), .int .i64 (a9), .int .i64 (1), .int .i64 (100), .int .i64 (0), .int .i64 (3), .int .i64 (4), .int .i64 (100), .int .i64 (4), .int .i64 (50), .int .i64 (2), .int .i64 (100), .int .i64 (3), .int .i64 (4), .int .i64 (256), .int .u64 (1)] 26 (0, 0)) :: (b4, .cells #[.int .i64 q0, .int .i64 q1, .int .i64 q2, .int .i64 q3, .int .i64 q4, .int .i64 q5, .int .i64 q6, .int .i64 q7, .int .i64 q8, .int .i64 q9, .int .i64 q10, .int .i64 q11, .int .i64 q12, .int .i64 q13, .int .i64 q14, .int .i64 q15, .int .i64 q16, .int .i64 q17, .int .i64 q18, .int .i64 q19] 83 (0, 0)) :: (b1, .cells #[.int .i64 (0), .int .i64 (0), .int .i64 (0), .int .i64 (0), .int .i64 (0), .int .i64 (0), .int .i64 (0), .int .i64 (0), .int .i64 (0), .int .i64 (0), .int .i64 (0), .int .i64 (0), .int .i64 (0), .int .i64 (0), .int .i64 (0), .int .i64 (0), .int .i64 (0), .int .i64 (0), .int .i64 (0), .int .i64 (0), .int .i64 (0), .int .i64 (0), .int .i64 (0), .int .i64 (0), .int .i64 (0), .int .u64 (0)] 26 (0, 0)) :: M) (fun w h => h) ?_
        refine TC.region ?_
        refine TL.val rfl rfl (Nat.le_of_ble_eq_true rfl) (Val.indexAddrA (i := 10) rfl rfl ar83 sz3 rfl (by first | decide | omega) rfl) ?_
        first
          | refine TL.val rfl rfl (Nat.le_of_ble_eq_true rfl) (Val.load 0 rfl ag3 rfl rfl) ?_
          | refine TL.val rfl rfl (Nat.le_of_ble_eq_true rfl) (Val.load 1 rfl ag3 rfl rfl) ?_
          | refine TL.val rfl rfl (Nat.le_of_ble_eq_true rfl) (Val.load 2 rfl ag3 rfl rfl) ?_
          | refine TL.val rfl rfl (Nat.le_of_ble_eq_true rfl) (Val.load 3 rfl ag3 rfl rfl) ?_
          | refine TL.val rfl rfl (Nat.le_of_ble_eq_true rfl) (Val.load 4 rfl ag3 rfl rfl) ?_
          | refine TL.val rfl rfl (Nat.le_of_ble_eq_true rfl) (Val.load 5 rfl ag3 rfl rfl) ?_
        refine TL.val rfl rfl (Nat.le_of_ble_eq_true rfl) (Val.rem rfl rfl (by first | decide | omega) (r := a10) ha10) ?_
        first
          | refine TL.val rfl rfl (Nat.le_of_ble_eq_true rfl) (Val.add rfl rfl (w_i64 (by omega) (by omega))) ?_
          | refine TL.val rfl rfl (Nat.le_of_ble_eq_true rfl) (Val.add rfl rfl rfl) ?_
        refine TL.val rfl rfl (Nat.le_of_ble_eq_true rfl) (Val.fieldAddr rfl fl26_9 sz3 rfl) ?_
        first
          | refine TL.does none rfl rfl rfl (Does.store (i := 0) rfl rfl rfl sz3 rfl rfl (by first | exact Nat.le_of_ble_eq_true rfl | decide | omega) rfl rfl) ?_
          | refine TL.does none rfl rfl rfl (Does.store (i := 1) rfl rfl rfl sz3 rfl rfl (by first | exact Nat.le_of_ble_eq_true rfl | decide | omega) rfl rfl) ?_
          | refine TL.does none rfl rfl rfl (Does.store (i := 2) rfl rfl rfl sz3 rfl rfl (by first | exact Nat.le_of_ble_eq_true rfl | decide | omega) rfl rfl) ?_
          | refine TL.does none rfl rfl rfl (Does.store (i := 3) rfl rfl rfl sz3 rfl rfl (by first | exact Nat.le_of_ble_eq_true rfl | decide | omega) rfl rfl) ?_
          | refine TL.does none rfl rfl rfl (Does.store (i := 4) rfl rfl rfl sz3 rfl rfl (by first | exact Nat.le_of_ble_eq_true rfl | decide | omega) rfl rfl) ?_
          | refine TL.does none rfl rfl rfl (Does.store (i := 5) rfl rfl rfl sz3 rfl rfl (by first | exact Nat.le_of_ble_eq_true rfl | decide | omega) rfl rfl) ?_
        rintro _ _ ⟨rfl, rfl⟩
        refine TL.nil ?_
        refine AtX.then ?_
        refine TC.env (E' := [(2, _), (3, _), (4, _)]) (Sub.cons rfl (Sub.cons rfl (Sub.cons rfl (Sub.nil _)))) ?_
        refine TC.seq ?_
        refine TC.heap (M' := (b3, .cells #[.int .i64 (3 * a0 + 1 + a1), .int .i64 (a0), .int .i64 (1 + a2), .int .i64 (2 * a0 + 1 + a3), .int .i64 (1 + a4), .int .i64 (1 + a5), .int .i64 (1 + a6), .int .i64 (T0), .int .i64 (T1), .int .i64 (0), .int .i64 (0), .int .i64 (a9), .int .i64 (1 + a10), .int .i64 (100), .int .i64 (0), .int .i64 (3), .int .i64 (4), .int .i64 (100), .int .i64 (4), .int .i64 (50), .int .i64 (2), .int .i64 (100), .int .i64 (3), .int .i64 (4), .int .i64 (256), .int .u64 (1)] 26 (0, 0)) :: (b4, .cells #[.int .i64 q0, .int .i64 q1, .int .i64 q2, .int .i64 q3, .int .i64 q4, .int .i64 q5, .int .i64 q6, .int .i64 q7, .int .i64 q8, .int .i64 q9, .int .i64 q10, .int .i64 q11, .int .i64 q12, .int .i64 q13, .int .i64 q14, .int .i64 q15, .int .i64 q16, .int .i64 q17, .int .i64 q18, .int .i64 q19] 83 (0, 0)) :: (b1, .cells #[.int .i64 (0), .int .i64 (0), .int .i64 (0), .int .i64 (0), .int .i64 (0), .int .i64 (0), .int .i64 (0), .int .i64 (0), .int .i64 (0), .int .i64 (0), .int .i64 (0), .int .i64 (0), .int .i64 (0), .int .i64 (0), .int .i64 (0), .int .i64 (0), .int .i64 (0), .int .i64 (0), .int .i64 (0), .int .i64 (0), .int .i64 (0), .int .i64 (0), .int .i64 (0), .int .i64 (0), .int .i64 (0), .int .u64 (0)] 26 (0, 0)) :: M) (fun w h => h) ?_
        refine TC.region ?_
        refine TL.val rfl rfl (Nat.le_of_ble_eq_true rfl) (Val.fieldAddr rfl fl26_9 sz3 rfl) ?_
        first
          | refine TL.val rfl rfl (Nat.le_of_ble_eq_true rfl) (Val.load 0 rfl ag3 rfl rfl) ?_
          | refine TL.val rfl rfl (Nat.le_of_ble_eq_true rfl) (Val.load 1 rfl ag3 rfl rfl) ?_
          | refine TL.val rfl rfl (Nat.le_of_ble_eq_true rfl) (Val.load 2 rfl ag3 rfl rfl) ?_
          | refine TL.val rfl rfl (Nat.le_of_ble_eq_true rfl) (Val.load 3 rfl ag3 rfl rfl) ?_
          | refine TL.val rfl rfl (Nat.le_of_ble_eq_true rfl) (Val.load 4 rfl ag3 rfl rfl) ?_
          | refine TL.val rfl rfl (Nat.le_of_ble_eq_true rfl) (Val.load 5 rfl ag3 rfl rfl) ?_
        refine TL.val rfl rfl (Nat.le_of_ble_eq_true rfl) (Val.indexAddrA (i := 10) rfl rfl ar83 sz3 rfl (by first | decide | omega) rfl) ?_
        first
          | refine TL.val rfl rfl (Nat.le_of_ble_eq_true rfl) (Val.load 0 rfl ag3 rfl rfl) ?_
          | refine TL.val rfl rfl (Nat.le_of_ble_eq_true rfl) (Val.load 1 rfl ag3 rfl rfl) ?_
          | refine TL.val rfl rfl (Nat.le_of_ble_eq_true rfl) (Val.load 2 rfl ag3 rfl rfl) ?_
          | refine TL.val rfl rfl (Nat.le_of_ble_eq_true rfl) (Val.load 3 rfl ag3 rfl rfl) ?_
          | refine TL.val rfl rfl (Nat.le_of_ble_eq_true rfl) (Val.load 4 rfl ag3 rfl rfl) ?_
          | refine TL.val rfl rfl (Nat.le_of_ble_eq_true rfl) (Val.load 5 rfl ag3 rfl rfl) ?_
        refine TL.val rfl rfl (Nat.le_of_ble_eq_true rfl) (Val.quo rfl rfl (by decide) (r := b10) (by rw [hb10]; exact w_i64 (by omega) (by omega))) ?_
        refine TL.val rfl rfl (Nat.le_of_ble_eq_true rfl) (Val.rem rfl rfl (by first | decide | omega) (r := c10) hc10) ?_
        first
          | refine TL.val rfl rfl (Nat.le_of_ble_eq_true rfl) (Val.add rfl rfl (w_i64 (by omega) (by omega))) ?_
          | refine TL.val rfl rfl (Nat.le_of_ble_eq_true rfl) (Val.add rfl rfl rfl) ?_
        refine TL.val rfl rfl (Nat.le_of_ble_eq_true rfl) (Val.fieldAddr rfl fl26_10 sz3 rfl) ?_
        first
          | refine TL.does none rfl rfl rfl (Does.store (i := 0) rfl rfl rfl sz3 rfl rfl (by first | exact Nat.le_of_ble_eq_true rfl | decide | omega) rfl rfl) ?_
          | refine TL.does none rfl rfl rfl (Does.store (i := 1) rfl rfl rfl sz3 rfl rfl (by first | exact Nat.le_of_ble_eq_true rfl | decide | omega) rfl rfl) ?_
          | refine TL.does none rfl rfl rfl (Does.store (i := 2) rfl rfl rfl sz3 rfl rfl (by first | exact Nat.le_of_ble_eq_true rfl | decide | omega) rfl rfl) ?_
          | refine TL.does none rfl rfl rfl (Does.store (i := 3) rfl rfl rfl sz3 rfl rfl (by first | exact Nat.le_of_ble_eq_true rfl | decide | omega) rfl rfl) ?_
          | refine TL.does none rfl rfl rfl (Does.store (i := 4) rfl rfl rfl sz3 rfl rfl (by first | exact Nat.le_of_ble_eq_true rfl | decide | omega) rfl rfl) ?_
          | refine TL.does none rfl rfl rfl (Does.store (i := 5) rfl rfl rfl sz3 rfl rfl (by first | exact Nat.le_of_ble_eq_true rfl | decide | omega) rfl rfl) ?_
        rintro _ _ ⟨rfl, rfl⟩
        refine TL.nil ?_
        refine AtX.then ?_
        refine TC.env (E' := [(2, _), (3, _), (4, _)]) (Sub.cons rfl (Sub.cons rfl (Sub.cons rfl (Sub.nil _)))) ?_
        refine TC.seq ?_
        refine TC.heap (M' := (b3, .cells #[.int .i64 (3 * a0 + 1 + a1), .int .i64 (a0), .int .i64 (1 + a2), .int .i64 (2 * a0 + 1 + a3), .int .i64 (1 + a4), .int .i64 (1 + a5), .int .i64 (1 + a6), .int .i64 (T0), .int .i64 (T1), .int .i64 (0), .int .i64 (0), .int .i64 (a9), .int .i64 (1 + a10), .int .i64 (1 + a10 + c10), .int .i64 (0), .int .i64 (3), .int .i64 (4), .int .i64 (100), .int .i64 (4), .int .i64 (50), .int .i64 (2), .int .i64 (100), .int .i64 (3), .int .i64 (4), .int .i64 (256), .int .u64 (1)] 26 (0, 0)) :: (b4, .cells #[.int .i64 q0, .int .i64 q1, .int .i64 q2, .int .i64 q3, .int .i64 q4, .int .i64 q5, .int .i64 q6, .int .i64 q7, .int .i64 q8, .int .i64 q9, .int .i64 q10, .int .i64 q11, .int .i64 q12, .int .i64 q13, .int .i64 q14, .int .i64 q15, .int .i64 q16, .int .i64 q17, .int .i64 q18, .int .i64 q19] 83 (0, 0)) :: (b1, .cells #[.int .i64 (0), .int .i64 (0), .int .i64 (0), .int .i64 (0), .int .i64 (0), .int .i64 (0), .int .i64 (0), .int .i64 (0), .int .i64 (0), .int .i64 (0), .int .i64 (0), .int .i64 (0), .int .i64 (0), .int .i64 (0), .int .i64 (0), .int .i64 (0), .int .i64 (0), .int .i64 (0), .int .i64 (0), .int .i64 (0), .int .i64 (0), .int .i64 (0), .int .i64 (0), .int .i64 (0), .int .i64 (0), .int .u64 (0)] 26 (0, 0)) :: M) (fun w h => h) ?_
        refine TC.drawL ((b4, .cells #[.int .i64 q0, .int .i64 q1, .int .i64 q2, .int .i64 q3, .int .i64 q4, .int .i64 q5, .int .i64 q6, .int .i64 q7, .int .i64 q8, .int .i64 q9, .int .i64 q10, .int .i64 q11, .int .i64 q12, .int .i64 q13, .int .i64 q14, .int .i64 q15, .int .i64 q16, .int .i64 q17, .int .i64 q18, .int .i64 q19] 83 (0, 0)) :: (b1, .cells #[.int .i64 (0), .int .i64 (0), .int .i64 (0), .int .i64 (0), .int .i64 (0), .int .i64 (0), .int .i64 (0), .int .i64 (0), .int .i64 (0), .int .i64 (0), .int .i64 (0), .int .i64 (0), .int .i64 (0), .int .i64 (0), .int .i64 (0), .int .i64 (0), .int .i64 (0), .int .i64 (0), .int .i64 (0), .int .i64 (0), .int .i64 (0), .int .i64 (0), .int .i64 (0), .int .i64 (0), .int .i64 (0), .int .u64 (0)] 26 (0, 0)) :: M) mixed 10 ?_
        refine TA.tk 0 1 rfl rfl rfl (Val.indexAddrA (i := 11) rfl rfl ar83 sz3 rfl (by first | decide | omega) rfl) ?_
        first
          | refine TA.tk 1 3 rfl rfl rfl (Val.load 0 rfl ag3 rfl rfl) ?_
          | refine TA.tk 1 3 rfl rfl rfl (Val.load 1 rfl ag3 rfl rfl) ?_
          | refine TA.tk 1 3 rfl rfl rfl (Val.load 2 rfl ag3 rfl rfl) ?_
          | refine TA.tk 1 3 rfl rfl rfl (Val.load 3 rfl ag3 rfl rfl) ?_
          | refine TA.tk 1 3 rfl rfl rfl (Val.load 4 rfl ag3 rfl rfl) ?_
          | refine TA.tk 1 3 rfl rfl rfl (Val.load 5 rfl ag3 rfl rfl) ?_
        refine TA.tk 2 7 rfl rfl rfl (Val.rem rfl rfl (by first | decide | omega) (r := a11) ha11) ?_
        refine TA.tk 3 15 rfl rfl rfl (Val.indexAddrA (i := 12) rfl rfl ar83 sz3 rfl (by first | decide | omega) rfl) ?_
        first
          | refine TA.tk 4 31 rfl rfl rfl (Val.load 0 rfl ag3 rfl rfl) ?_
          | refine TA.tk 4 31 rfl rfl rfl (Val.load 1 rfl ag3 rfl rfl) ?_
          | refine TA.tk 4 31 rfl rfl rfl (Val.load 2 rfl ag3 rfl rfl) ?_
          | refine TA.tk 4 31 rfl rfl rfl (Val.load 3 rfl ag3 rfl rfl) ?_
          | refine TA.tk 4 31 rfl rfl rfl (Val.load 4 rfl ag3 rfl rfl) ?_
          | refine TA.tk 4 31 rfl rfl rfl (Val.load 5 rfl ag3 rfl rfl) ?_
        refine TA.tk 5 63 rfl rfl rfl (Val.rem rfl rfl (by first | decide | omega) (r := a12) ha12) ?_
        refine TA.tk 6 127 rfl rfl rfl (Val.fieldAddr rfl fl26_11 sz3 rfl) ?_
        refine TA.one 7 (by kernel_rfl) ?_
        first
          | refine TO.dz 255 none rfl rfl rfl rfl (Does.store (i := 0) rfl rfl rfl sz3 rfl rfl (by first | exact Nat.le_of_ble_eq_true rfl | decide | omega) rfl rfl) ?_
          | refine TO.dz 255 none rfl rfl rfl rfl (Does.store (i := 1) rfl rfl rfl sz3 rfl rfl (by first | exact Nat.le_of_ble_eq_true rfl | decide | omega) rfl rfl) ?_
          | refine TO.dz 255 none rfl rfl rfl rfl (Does.store (i := 2) rfl rfl rfl sz3 rfl rfl (by first | exact Nat.le_of_ble_eq_true rfl | decide | omega) rfl rfl) ?_
          | refine TO.dz 255 none rfl rfl rfl rfl (Does.store (i := 3) rfl rfl rfl sz3 rfl rfl (by first | exact Nat.le_of_ble_eq_true rfl | decide | omega) rfl rfl) ?_
          | refine TO.dz 255 none rfl rfl rfl rfl (Does.store (i := 4) rfl rfl rfl sz3 rfl rfl (by first | exact Nat.le_of_ble_eq_true rfl | decide | omega) rfl rfl) ?_
          | refine TO.dz 255 none rfl rfl rfl rfl (Does.store (i := 5) rfl rfl rfl sz3 rfl rfl (by first | exact Nat.le_of_ble_eq_true rfl | decide | omega) rfl rfl) ?_
        rintro _ _ ⟨rfl, rfl⟩
        refine roK ?_
        refine TA.tk 8 511 rfl rfl rfl (Val.fieldAddr rfl fl26_12 sz3 rfl) ?_
        refine TA.one 9 (by kernel_rfl) ?_
        first
          | refine TO.dz 1023 none rfl rfl rfl rfl (Does.store (i := 0) rfl rfl rfl sz3 rfl rfl (by first | exact Nat.le_of_ble_eq_true rfl | decide | omega) rfl rfl) ?_
          | refine TO.dz 1023 none rfl rfl rfl rfl (Does.store (i := 1) rfl rfl rfl sz3 rfl rfl (by first | exact Nat.le_of_ble_eq_true rfl | decide | omega) rfl rfl) ?_
          | refine TO.dz 1023 none rfl rfl rfl rfl (Does.store (i := 2) rfl rfl rfl sz3 rfl rfl (by first | exact Nat.le_of_ble_eq_true rfl | decide | omega) rfl rfl) ?_
          | refine TO.dz 1023 none rfl rfl rfl rfl (Does.store (i := 3) rfl rfl rfl sz3 rfl rfl (by first | exact Nat.le_of_ble_eq_true rfl | decide | omega) rfl rfl) ?_
          | refine TO.dz 1023 none rfl rfl rfl rfl (Does.store (i := 4) rfl rfl rfl sz3 rfl rfl (by first | exact Nat.le_of_ble_eq_true rfl | decide | omega) rfl rfl) ?_
          | refine TO.dz 1023 none rfl rfl rfl rfl (Does.store (i := 5) rfl rfl rfl sz3 rfl rfl (by first | exact Nat.le_of_ble_eq_true rfl | decide | omega) rfl rfl) ?_
        rintro _ _ ⟨rfl, rfl⟩
        refine roK ?_
        refine TA.done (by kernel_rfl) ?_
        refine AtX.then ?_
        refine TC.env (E' := [(2, _), (3, _), (4, _)]) (Sub.cons rfl (Sub.cons rfl (Sub.cons rfl (Sub.nil _)))) ?_
        refine TC.seq ?_
        refine TC.heap (M' := (b3, .cells #[.int .i64 (3 * a0 + 1 + a1), .int .i64 (a0), .int .i64 (1 + a2), .int .i64 (2 * a0 + 1 + a3), .int .i64 (1 + a4), .int .i64 (1 + a5), .int .i64 (1 + a6), .int .i64 (T0), .int .i64 (T1), .int .i64 (0), .int .i64 (0), .int .i64 (a9), .int .i64 (1 + a10), .int .i64 (1 + a10 + c10), .int .i64 (a11), .int .i64 (a12), .int .i64 (4), .int .i64 (100), .int .i64 (4), .int .i64 (50), .int .i64 (2), .int .i64 (100), .int .i64 (3), .int .i64 (4), .int .i64 (256), .int .u64 (1)] 26 (0, 0)) :: (b4, .cells #[.int .i64 q0, .int .i64 q1, .int .i64 q2, .int .i64 q3, .int .i64 q4, .int .i64 q5, .int .i64 q6, .int .i64 q7, .int .i64 q8, .int .i64 q9, .int .i64 q10, .int .i64 q11, .int .i64 q12, .int .i64 q13, .int .i64 q14, .int .i64 q15, .int .i64 q16, .int .i64 q17, .int .i64 q18, .int .i64 q19] 83 (0, 0)) :: (b1, .cells #[.int .i64 (0), .int .i64 (0), .int .i64 (0), .int .i64 (0), .int .i64 (0), .int .i64 (0), .int .i64 (0), .int .i64 (0), .int .i64 (0), .int .i64 (0), .int .i64 (0), .int .i64 (0), .int .i64 (0), .int .i64 (0), .int .i64 (0), .int .i64 (0), .int .i64 (0), .int .i64 (0), .int .i64 (0), .int .i64 (0), .int .i64 (0), .int .i64 (0), .int .i64 (0), .int .i64 (0), .int .i64 (0), .int .u64 (0)] 26 (0, 0)) :: M) (fun w h => h) ?_
        refine TC.drawL ((b4, .cells #[.int .i64 q0, .int .i64 q1, .int .i64 q2, .int .i64 q3, .int .i64 q4, .int .i64 q5, .int .i64 q6, .int .i64 q7, .int .i64 q8, .int .i64 q9, .int .i64 q10, .int .i64 q11, .int .i64 q12, .int .i64 q13, .int .i64 q14, .int .i64 q15, .int .i64 q16, .int .i64 q17, .int .i64 q18, .int .i64 q19] 83 (0, 0)) :: (b1, .cells #[.int .i64 (0), .int .i64 (0), .int .i64 (0), .int .i64 (0), .int .i64 (0), .int .i64 (0), .int .i64 (0), .int .i64 (0), .int .i64 (0), .int .i64 (0), .int .i64 (0), .int .i64 (0), .int .i64 (0), .int .i64 (0), .int .i64 (0), .int .i64 (0), .int .i64 (0), .int .i64 (0), .int .i64 (0), .int .i64 (0), .int .i64 (0), .int .i64 (0), .int .i64 (0), .int .i64 (0), .int .i64 (0), .int .u64 (0)] 26 (0, 0)) :: M) mixed 13 ?_
        refine TA.tk 0 1 rfl rfl rfl (Val.indexAddrA (i := 13) rfl rfl ar83 sz3 rfl (by first | decide | omega) rfl) ?_
        first
          | refine TA.tk 1 3 rfl rfl rfl (Val.load 0 rfl ag3 rfl rfl) ?_
          | refine TA.tk 1 3 rfl rfl rfl (Val.load 1 rfl ag3 rfl rfl) ?_
          | refine TA.tk 1 3 rfl rfl rfl (Val.load 2 rfl ag3 rfl rfl) ?_
          | refine TA.tk 1 3 rfl rfl rfl (Val.load 3 rfl ag3 rfl rfl) ?_
          | refine TA.tk 1 3 rfl rfl rfl (Val.load 4 rfl ag3 rfl rfl) ?_
          | refine TA.tk 1 3 rfl rfl rfl (Val.load 5 rfl ag3 rfl rfl) ?_
        refine TA.tk 2 7 rfl rfl rfl (Val.rem rfl rfl (by first | decide | omega) (r := a13) ha13) ?_
        first
          | refine TA.tk 3 15 rfl rfl rfl (Val.add rfl rfl (w_i64 (by omega) (by omega))) ?_
          | refine TA.tk 3 15 rfl rfl rfl (Val.add rfl rfl rfl) ?_
        refine TA.tk 4 31 rfl rfl rfl (Val.indexAddrA (i := 13) rfl rfl ar83 sz3 rfl (by first | decide | omega) rfl) ?_
        first
          | refine TA.tk 5 63 rfl rfl rfl (Val.load 0 rfl ag3 rfl rfl) ?_
          | refine TA.tk 5 63 rfl rfl rfl (Val.load 1 rfl ag3 rfl rfl) ?_
          | refine TA.tk 5 63 rfl rfl rfl (Val.load 2 rfl ag3 rfl rfl) ?_
          | refine TA.tk 5 63 rfl rfl rfl (Val.load 3 rfl ag3 rfl rfl) ?_
          | refine TA.tk 5 63 rfl rfl rfl (Val.load 4 rfl ag3 rfl rfl) ?_
          | refine TA.tk 5 63 rfl rfl rfl (Val.load 5 rfl ag3 rfl rfl) ?_
        refine TA.tk 6 127 rfl rfl rfl (Val.quo rfl rfl (by decide) (r := b13) (by rw [hb13]; exact w_i64 (by omega) (by omega))) ?_
        refine TA.tk 7 255 rfl rfl rfl (Val.rem rfl rfl (by first | decide | omega) (r := c13) hc13) ?_
        first
          | refine TA.tk 8 511 rfl rfl rfl (Val.add rfl rfl (w_i64 (by omega) (by omega))) ?_
          | refine TA.tk 8 511 rfl rfl rfl (Val.add rfl rfl rfl) ?_
        refine TA.tk 9 1023 rfl rfl rfl (Val.fieldAddr rfl fl26_13 sz3 rfl) ?_
        refine TA.one 10 (by kernel_rfl) ?_
        first
          | refine TO.dz 2047 none rfl rfl rfl rfl (Does.store (i := 0) rfl rfl rfl sz3 rfl rfl (by first | exact Nat.le_of_ble_eq_true rfl | decide | omega) rfl rfl) ?_
          | refine TO.dz 2047 none rfl rfl rfl rfl (Does.store (i := 1) rfl rfl rfl sz3 rfl rfl (by first | exact Nat.le_of_ble_eq_true rfl | decide | omega) rfl rfl) ?_
          | refine TO.dz 2047 none rfl rfl rfl rfl (Does.store (i := 2) rfl rfl rfl sz3 rfl rfl (by first | exact Nat.le_of_ble_eq_true rfl | decide | omega) rfl rfl) ?_
          | refine TO.dz 2047 none rfl rfl rfl rfl (Does.store (i := 3) rfl rfl rfl sz3 rfl rfl (by first | exact Nat.le_of_ble_eq_true rfl | decide | omega) rfl rfl) ?_
          | refine TO.dz 2047 none rfl rfl rfl rfl (Does.store (i := 4) rfl rfl rfl sz3 rfl rfl (by first | exact Nat.le_of_ble_eq_true rfl | decide | omega) rfl rfl) ?_
          | refine TO.dz 2047 none rfl rfl rfl rfl (Does.store (i := 5) rfl rfl rfl sz3 rfl rfl (by first | exact Nat.le_of_ble_eq_true rfl | decide | omega) rfl rfl) ?_
        rintro _ _ ⟨rfl, rfl⟩
        refine roK ?_
        refine TA.tk 11 4095 rfl rfl rfl (Val.fieldAddr rfl fl26_14 sz3 rfl) ?_
        refine TA.one 12 (by kernel_rfl) ?_
        first
          | refine TO.dz 8191 none rfl rfl rfl rfl (Does.store (i := 0) rfl rfl rfl sz3 rfl rfl (by first | exact Nat.le_of_ble_eq_true rfl | decide | omega) rfl rfl) ?_
          | refine TO.dz 8191 none rfl rfl rfl rfl (Does.store (i := 1) rfl rfl rfl sz3 rfl rfl (by first | exact Nat.le_of_ble_eq_true rfl | decide | omega) rfl rfl) ?_
          | refine TO.dz 8191 none rfl rfl rfl rfl (Does.store (i := 2) rfl rfl rfl sz3 rfl rfl (by first | exact Nat.le_of_ble_eq_true rfl | decide | omega) rfl rfl) ?_
          | refine TO.dz 8191 none rfl rfl rfl rfl (Does.store (i := 3) rfl rfl rfl sz3 rfl rfl (by first | exact Nat.le_of_ble_eq_true rfl | decide | omega) rfl rfl) ?_
          | refine TO.dz 8191 none rfl rfl rfl rfl (Does.store (i := 4) rfl rfl rfl sz3 rfl rfl (by first | exact Nat.le_of_ble_eq_true rfl | decide | omega) rfl rfl) ?_
          | refine TO.dz 8191 none rfl rfl rfl rfl (Does.store (i := 5) rfl rfl rfl sz3 rfl rfl (by first | exact Nat.le_of_ble_eq_true rfl | decide | omega) rfl rfl) ?_
        rintro _ _ ⟨rfl, rfl⟩
        refine roK ?_
        refine TA.done (by kernel_rfl) ?_
        refine AtX.then ?_
        refine TC.env (E' := [(2, _), (3, _), (4, _)]) (Sub.cons rfl (Sub.cons rfl (Sub.cons rfl (Sub.nil _)))) ?_
        refine TC.seq ?_
        refine TC.heap (M' := (b3, .cells #[.int .i64 (3 * a0 + 1 + a1), .int .i64 (a0), .int .i64 (1 + a2), .int .i64 (2 * a0 + 1 + a3), .int .i64 (1 + a4), .int .i64 (1 + a5), .int .i64 (1 + a6), .int .i64 (T0), .int .i64 (T1), .int .i64 (0), .int .i64 (0), .int .i64 (a9), .int .i64 (1 + a10), .int .i64 (1 + a10 + c10), .int .i64 (a11), .int .i64 (a12), .int .i64 (1 + a13), .int .i64 (1 + c13), .int .i64 (4), .int .i64 (50), .int .i64 (2), .int .i64 (100), .int .i64 (3), .int .i64 (4), .int .i64 (256), .int .u64 (1)] 26 (0, 0)) :: (b4, .cells #[.int .i64 q0, .int .i64 q1, .int .i64 q2, .int .i64 q3, .int .i64 q4, .int .i64 q5, .int .i64 q6, .int .i64 q7, .int .i64 q8, .int .i64 q9, .int .i64 q10, .int .i64 q11, .int .i64 q12, .int .i64 q13, .int .i64 q14, .int .i64 q15, .int .i64 q16, .int .i64 q17, .int .i64 q18, .int .i64 q19] 83 (0, 0)) :: (b1, .cells #[.int .i64 (0), .int .i64 (0), .int .i64 (0), .int .i64 (0), .int .i64 (0), .int .i64 (0), .int .i64 (0), .int .i64 (0), .int .i64 (0), .int .i64 (0), .int .i64 (0), .int .i64 (0), .int .i64 (0), .int .i64 (0), .int .i64 (0), .int .i64 (0), .int .i64 (0), .int .i64 (0), .int .i64 (0), .int .i64 (0), .int .i64 (0), .int .i64 (0), .int .i64 (0), .int .i64 (0), .int .i64 (0), .int .u64 (0)] 26 (0, 0)) :: M) (fun w h => h) ?_
        refine TC.drawL ((b4, .cells #[.int .i64 q0, .int .i64 q1, .int .i64 q2, .int .i64 q3, .int .i64 q4, .int .i64 q5, .int .i64 q6, .int .i64 q7, .int .i64 q8, .int .i64 q9, .int .i64 q10, .int .i64 q11, .int .i64 q12, .int .i64 q13, .int .i64 q14, .int .i64 q15, .int .i64 q16, .int .i64 q17, .int .i64 q18, .int .i64 q19] 83 (0, 0)) :: (b1, .cells #[.int .i64 (0), .int .i64 (0), .int .i64 (0), .int .i64 (0), .int .i64 (0), .int .i64 (0), .int .i64 (0), .int .i64 (0), .int .i64 (0), .int .i64 (0), .int .i64 (0), .int .i64 (0), .int .i64 (0), .int .i64 (0), .int .i64 (0), .int .i64 (0), .int .i64 (0), .int .i64 (0), .int .i64 (0), .int .i64 (0), .int .i64 (0), .int .i64 (0), .int .i64 (0), .int .i64 (0), .int .i64 (0), .int .u64 (0)] 26 (0, 0)) :: M) mixed 13 ?_
        refine TA.tk 0 1 rfl rfl rfl (Val.indexAddrA (i := 14) rfl rfl ar83 sz3 rfl (by first | decide | omega) rfl) ?_
        first
          | refine TA.tk 1 3 rfl rfl rfl (Val.load 0 rfl ag3 rfl rfl) ?_
          | refine TA.tk 1 3 rfl rfl rfl (Val.load 1 rfl ag3 rfl rfl) ?_
          | refine TA.tk 1 3 rfl rfl rfl (Val.load 2 rfl ag3 rfl rfl) ?_
          | refine TA.tk 1 3 rfl rfl rfl (Val.load 3 rfl ag3 rfl rfl) ?_
          | refine TA.tk 1 3 rfl rfl rfl (Val.load 4 rfl ag3 rfl rfl) ?_
          | refine TA.tk 1 3 rfl rfl rfl (Val.load 5 rfl ag3 rfl rfl) ?_
        refine TA.tk 2 7 rfl rfl rfl (Val.rem rfl rfl (by first | decide | omega) (r := a14) ha14) ?_
        first
          | refine TA.tk 3 15 rfl rfl rfl (Val.add rfl rfl (w_i64 (by omega) (by omega))) ?_
          | refine TA.tk 3 15 rfl rfl rfl (Val.add rfl rfl rfl) ?_
        refine TA.tk 4 31 rfl rfl rfl (Val.indexAddrA (i := 14) rfl rfl ar83 sz3 rfl (by first | decide | omega) rfl) ?_
        first
          | refine TA.tk 5 63 rfl rfl rfl (Val.load 0 rfl ag3 rfl rfl) ?_
          | refine TA.tk 5 63 rfl rfl rfl (Val.load 1 rfl ag3 rfl rfl) ?_
          | refine TA.tk 5 63 rfl rfl rfl (Val.load 2 rfl ag3 rfl rfl) ?_
          | refine TA.tk 5 63 rfl rfl rfl (Val.load 3 rfl ag3 rfl rfl) ?_
          | refine TA.tk 5 63 rfl rfl rfl (Val.load 4 rfl ag3 rfl rfl) ?_
          | refine TA.tk 5 63 rfl rfl rfl (Val.load 5 rfl ag3 rfl rfl) ?_
        refine TA.tk 6 127 rfl rfl rfl (Val.quo rfl rfl (by decide) (r := b14) (by rw [hb14]; exact w_i64 (by omega) (by omega))) ?_
        refine TA.tk 7 255 rfl rfl rfl (Val.rem rfl rfl (by first | decide | omega) (r := c14) hc14) ?_
        first
          | refine TA.tk 8 511 rfl rfl rfl (Val.add rfl rfl (w_i64 (by omega) (by omega))) ?_
          | refine TA.tk 8 511 rfl rfl rfl (Val.add rfl rfl rfl) ?_
        refine TA.tk 9 1023 rfl rfl rfl (Val.fieldAddr rfl fl26_15 sz3 rfl) ?_
        refine TA.one 10 (by kernel_rfl) ?_
        first
          | refine TO.dz 2047 none rfl rfl rfl rfl (Does.store (i := 0) rfl rfl rfl sz3 rfl rfl (by first | exact Nat.le_of_ble_eq_true rfl | decide | omega) rfl rfl) ?_
          | refine TO.dz 2047 none rfl rfl rfl rfl (Does.store (i := 1) rfl rfl rfl sz3 rfl rfl (by first | exact Nat.le_of_ble_eq_true rfl | decide | omega) rfl rfl) ?_
          | refine TO.dz 2047 none rfl rfl rfl rfl (Does.store (i := 2) rfl rfl rfl sz3 rfl rfl (by first | exact Nat.le_of_ble_eq_true rfl | decide | omega) rfl rfl) ?_
          | refine TO.dz 2047 none rfl rfl rfl rfl (Does.store (i := 3) rfl rfl rfl sz3 rfl rfl (by first | exact Nat.le_of_ble_eq_true rfl | decide | omega) rfl rfl) ?_
          | refine TO.dz 2047 none rfl rfl rfl rfl (Does.store (i := 4) rfl rfl rfl sz3 rfl rfl (by first | exact Nat.le_of_ble_eq_true rfl | decide | omega) rfl rfl) ?_
          | refine TO.dz 2047 none rfl rfl rfl rfl (Does.store (i := 5) rfl rfl rfl sz3 rfl rfl (by first | exact Nat.le_of_ble_eq_true rfl | decide | omega) rfl rfl) ?_
        rintro _ _ ⟨rfl, rfl⟩
        refine roK ?_
        refine TA.tk 11 4095 rfl rfl rfl (Val.fieldAddr rfl fl26_16 sz3 rfl) ?_
        refine TA.one 12 (by kernel_rfl) ?_
        first
          | refine TO.dz 8191 none rfl rfl rfl rfl (Does.store (i := 0) rfl rfl rfl sz3 rfl rfl (by first | exact Nat.le_of_ble_eq_true rfl | decide | omega) rfl rfl) ?_
          | refine TO.dz 8191 none rfl rfl rfl rfl (Does.store (i := 1) rfl rfl rfl sz3 rfl rfl (by first | exact Nat.le_of_ble_eq_true rfl | decide | omega) rfl rfl) ?_
          | refine TO.dz 8191 none rfl rfl rfl rfl (Does.store (i := 2) rfl rfl rfl sz3 rfl rfl (by first | exact Nat.le_of_ble_eq_true rfl | decide | omega) rfl rfl) ?_
          | refine TO.dz 8191 none rfl rfl rfl rfl (Does.store (i := 3) rfl rfl rfl sz3 rfl rfl (by first | exact Nat.le_of_ble_eq_true rfl | decide | omega) rfl rfl) ?_
          | refine TO.dz 8191 none rfl rfl rfl rfl (Does.store (i := 4) rfl rfl rfl sz3 rfl rfl (by first | exact Nat.le_of_ble_eq_true rfl | decide | omega) rfl rfl) ?_
          | refine TO.dz 8191 none rfl rfl rfl rfl (Does.store (i := 5) rfl rfl rfl sz3 rfl rfl (by first | exact Nat.le_of_ble_eq_true rfl | decide | omega) rfl rfl) ?_
        rintro _ _ ⟨rfl, rfl⟩
        refine roK ?_
        refine TA.done (by kernel_rfl) ?_
        refine AtX.then ?_
        refine TC.env (E' := [(2, _), (3, _), (4, _)]) (Sub.cons rfl (Sub.cons rfl (Sub.cons rfl (Sub.nil _)))) ?_
        refine TC.seq ?_
        refine TC.heap (M' := (b3, .cells #[.int .i64 (3 * a0 + 1 + a1), .int .i64 (a0), .int .i64 (1 + a2), .int .i64 (2 * a0 + 1 + a3), .int .i64 (1 + a4), .int .i64 (1 + a5), .int .i64 (1 + a6), .int .i64 (T0), .int .i64 (T1), .int .i64 (0), .int .i64 (0), .int .i64 (a9), .int .i64 (1 + a10), .int .i64 (1 + a10 + c10), .int .i64 (a11), .int .i64 (a12), .int .i64 (1 + a13), .int .i64 (1 + c13), .int .i64 (1 + a14), .int .i64 (1 + c14), .int .i64 (2), .int .i64 (100), .int .i64 (3), .int .i64 (4), .int .i64 (256), .int .u64 (1)] 26 (0, 0)) :: (b4, .cells #[.int .i64 q0, .int .i64 q1, .int .i64 q2, .int .i64 q3, .int .i64 q4, .int .i64 q5, .int .i64 q6, .int .i64 q7, .int .i64 q8, .int .i64 q9, .int .i64 q10, .int .i64 q11, .int .i64 q12, .int .i64 q13, .int .i64 q14, .int .i64 q15, .int .i64 q16, .int .i64 q17, .int .i64 q18, .int .i64 q19] 83 (0, 0)) :: (b1, .cells #[.int .i64 (0), .int .i64 (0), .int .i64 (0), .int .i64 (0), .int .i64 (0), .int .i64 (0), .int .i64 (0), .int .i64 (0), .int .i64 (0), .int .i64 (0), .int .i64 (0), .int .i64 (0), .int .i64 (0), .int .i64 (0), .int .i64 (0), .int .i64 (0), .int .i64 (0), .int .i64 (0), .int .i64 (0), .int .i64 (0), .int .i64 (0), .int .i64 (0), .int .i64 (0), .int .i64 (0), .int .i64 (0), .int .u64 (0)] 26 (0, 0)) :: M) (fun w h => h) ?_
        refine TC.region ?_
        refine TL.val rfl rfl (Nat.le_of_ble_eq_true rfl) (Val.indexAddrA (i := 15) rfl rfl ar83 sz3 rfl (by first | decide | omega) rfl) ?_
        first
          | refine TL.val rfl rfl (Nat.le_of_ble_eq_true rfl) (Val.load 0 rfl ag3 rfl rfl) ?_
          | refine TL.val rfl rfl (Nat.le_of_ble_eq_true rfl) (Val.load 1 rfl ag3 rfl rfl) ?_
          | refine TL.val rfl rfl (Nat.le_of_ble_eq_true rfl) (Val.load 2 rfl ag3 rfl rfl) ?_
          | refine TL.val rfl rfl (Nat.le_of_ble_eq_true rfl) (Val.load 3 rfl ag3 rfl rfl) ?_
          | refine TL.val rfl rfl (Nat.le_of_ble_eq_true rfl) (Val.load 4 rfl ag3 rfl rfl) ?_
          | refine TL.val rfl rfl (Nat.le_of_ble_eq_true rfl) (Val.load 5 rfl ag3 rfl rfl) ?_
        refine TL.val rfl rfl (Nat.le_of_ble_eq_true rfl) (Val.rem rfl rfl (by first | decide | omega) (r := a15) ha15) ?_
        first
          | refine TL.val rfl rfl (Nat.le_of_ble_eq_true rfl) (Val.add rfl rfl (w_i64 (by omega) (by omega))) ?_
          | refine TL.val rfl rfl (Nat.le_of_ble_eq_true rfl) (Val.add rfl rfl rfl) ?_
        refine TL.val rfl rfl (Nat.le_of_ble_eq_true rfl) (Val.fieldAddr rfl fl26_17 sz3 rfl) ?_
        first
          | refine TL.does none rfl rfl rfl (Does.store (i := 0) rfl rfl rfl sz3 rfl rfl (by first | exact Nat.le_of_ble_eq_true rfl | decide | omega) rfl rfl) ?_
          | refine TL.does none rfl rfl rfl (Does.store (i := 1) rfl rfl rfl sz3 rfl rfl (by first | exact Nat.le_of_ble_eq_true rfl | decide | omega) rfl rfl) ?_
          | refine TL.does none rfl rfl rfl (Does.store (i := 2) rfl rfl rfl sz3 rfl rfl (by first | exact Nat.le_of_ble_eq_true rfl | decide | omega) rfl rfl) ?_
          | refine TL.does none rfl rfl rfl (Does.store (i := 3) rfl rfl rfl sz3 rfl rfl (by first | exact Nat.le_of_ble_eq_true rfl | decide | omega) rfl rfl) ?_
          | refine TL.does none rfl rfl rfl (Does.store (i := 4) rfl rfl rfl sz3 rfl rfl (by first | exact Nat.le_of_ble_eq_true rfl | decide | omega) rfl rfl) ?_
          | refine TL.does none rfl rfl rfl (Does.store (i := 5) rfl rfl rfl sz3 rfl rfl (by first | exact Nat.le_of_ble_eq_true rfl | decide | omega) rfl rfl) ?_
        rintro _ _ ⟨rfl, rfl⟩
        refine TL.nil ?_
        refine AtX.then ?_
        refine TC.env (E' := [(2, _), (3, _), (4, _)]) (Sub.cons rfl (Sub.cons rfl (Sub.cons rfl (Sub.nil _)))) ?_
        refine TC.seq ?_
        refine TC.heap (M' := (b3, .cells #[.int .i64 (3 * a0 + 1 + a1), .int .i64 (a0), .int .i64 (1 + a2), .int .i64 (2 * a0 + 1 + a3), .int .i64 (1 + a4), .int .i64 (1 + a5), .int .i64 (1 + a6), .int .i64 (T0), .int .i64 (T1), .int .i64 (0), .int .i64 (0), .int .i64 (a9), .int .i64 (1 + a10), .int .i64 (1 + a10 + c10), .int .i64 (a11), .int .i64 (a12), .int .i64 (1 + a13), .int .i64 (1 + c13), .int .i64 (1 + a14), .int .i64 (1 + c14), .int .i64 (1 + a15), .int .i64 (100), .int .i64 (3), .int .i64 (4), .int .i64 (256), .int .u64 (1)] 26 (0, 0)) :: (b4, .cells #[.int .i64 q0, .int .i64 q1, .int .i64 q2, .int .i64 q3, .int .i64 q4, .int .i64 q5, .int .i64 q6, .int .i64 q7, .int .i64 q8, .int .i64 q9, .int .i64 q10, .int .i64 q11, .int .i64 q12, .int .i64 q13, .int .i64 q14, .int .i64 q15, .int .i64 q16, .int .i64 q17, .int .i64 q18, .int .i64 q19] 83 (0, 0)) :: (b1, .cells #[.int .i64 (0), .int .i64 (0), .int .i64 (0), .int .i64 (0), .int .i64 (0), .int .i64 (0), .int .i64 (0), .int .i64 (0), .int .i64 (0), .int .i64 (0), .int .i64 (0), .int .i64 (0), .int .i64 (0), .int .i64 (0), .int .i64 (0), .int .i64 (0), .int .i64 (0), .int .i64 (0), .int .i64 (0), .int .i64 (0), .int .i64 (0), .int .i64 (0), .int .i64 (0), .int .i64 (0), .int .i64 (0), .int .u64 (0)] 26 (0, 0)) :: M) (fun w h => h) ?_
        refine TC.region ?_
        refine TL.val rfl rfl (Nat.le_of_ble_eq_true rfl) (Val.indexAddrA (i := 16) rfl rfl ar83 sz3 rfl (by first | decide | omega) rfl) ?_
        first
          | refine TL.val rfl rfl (Nat.le_of_ble_eq_true rfl) (Val.load 0 rfl ag3 rfl rfl) ?_
          | refine TL.val rfl rfl (Nat.le_of_ble_eq_true rfl) (Val.load 1 rfl ag3 rfl rfl) ?_
          | refine TL.val rfl rfl (Nat.le_of_ble_eq_true rfl) (Val.load 2 rfl ag3 rfl rfl) ?_
          | refine TL.val rfl rfl (Nat.le_of_ble_eq_true rfl) (Val.load 3 rfl ag3 rfl rfl) ?_
          | refine TL.val rfl rfl (Nat.le_of_ble_eq_true rfl) (Val.load 4 rfl ag3 rfl rfl) ?_
          | refine TL.val rfl rfl (Nat.le_of_ble_eq_true rfl) (Val.load 5 rfl ag3 rfl rfl) ?_
        refine TL.val rfl rfl (Nat.le_of_ble_eq_true rfl) (Val.rem rfl rfl (by first | decide | omega) (r := a16) ha16) ?_
        refine TL.val rfl rfl (Nat.le_of_ble_eq_true rfl) (Val.fieldAddr rfl fl26_18 sz2 rfl) ?_
        first
          | refine TL.does none rfl rfl rfl (Does.store (i := 0) rfl rfl rfl sz2 rfl rfl (by first | exact Nat.le_of_ble_eq_true rfl | decide | omega) rfl rfl) ?_
          | refine TL.does none rfl rfl rfl (Does.store (i := 1) rfl rfl rfl sz2 rfl rfl (by first | exact Nat.le_of_ble_eq_true rfl | decide | omega) rfl rfl) ?_
          | refine TL.does none rfl rfl rfl (Does.store (i := 2) rfl rfl rfl sz2 rfl rfl (by first | exact Nat.le_of_ble_eq_true rfl | decide | omega) rfl rfl) ?_
          | refine TL.does none rfl rfl rfl (Does.store (i := 3) rfl rfl rfl sz2 rfl rfl (by first | exact Nat.le_of_ble_eq_true rfl | decide | omega) rfl rfl) ?_
          | refine TL.does none rfl rfl rfl (Does.store (i := 4) rfl rfl rfl sz2 rfl rfl (by first | exact Nat.le_of_ble_eq_true rfl | decide | omega) rfl rfl) ?_
          | refine TL.does none rfl rfl rfl (Does.store (i := 5) rfl rfl rfl sz2 rfl rfl (by first | exact Nat.le_of_ble_eq_true rfl | decide | omega) rfl rfl) ?_
        rintro _ _ ⟨rfl, rfl⟩
        refine TL.nil ?_
        refine AtX.then ?_
        refine TC.env (E' := [(2, _), (3, _), (4, _)]) (Sub.cons rfl (Sub.cons rfl (Sub.cons rfl (Sub.nil _)))) ?_
        refine TC.seq ?_
        refine TC.heap (M' := (b3, .cells #[.int .i64 (3 * a0 + 1 + a1), .int .i64 (a0), .int .i64 (1 + a2), .int .i64 (2 * a0 + 1 + a3), .int .i64 (1 + a4), .int .i64 (1 + a5), .int .i64 (1 + a6), .int .i64 (T0), .int .i64 (T1), .int .i64 (0), .int .i64 (0), .int .i64 (a9), .int .i64 (1 + a10), .int .i64 (1 + a10 + c10), .int .i64 (a11), .int .i64 (a12), .int .i64 (1 + a13), .int .i64 (1 + c13), .int .i64 (1 + a14), .int .i64 (1 + c14), .int .i64 (1 + a15), .int .i64 (a16), .int .i64 (3), .int .i64 (4), .int .i64 (256), .int .u64 (1)] 26 (0, 0)) :: (b4, .cells #[.int .i64 q0, .int .i64 q1, .int .i64 q2, .int .i64 q3, .int .i64 q4, .int .i64 q5, .int .i64 q6, .int .i64 q7, .int .i64 q8, .int .i64 q9, .int .i64 q10, .int .i64 q11, .int .i64 q12, .int .i64 q13, .int .i64 q14, .int .i64 q15, .int .i64 q16, .int .i64 q17, .int .i64 q18, .int .i64 q19] 83 (0, 0)) :: (b1, .cells #[.int .i64 (0), .int .i64 (0), .int .i64 (0), .int .i64 (0), .int .i64 (0), .int .i64 (0), .int .i64 (0), .int .i64 (0), .int .i64 (0), .int .i64 (0), .int .i64 (0), .int .i64 (0), .int .i64 (0), .int .i64 (0), .int .i64 (0), .int .i64 (0), .int .i64 (0), .int .i64 (0), .int .i64 (0), .int .i64 (0), .int .i64 (0), .int .i64 (0), .int .i64 (0), .int .i64 (0), .int .i64 (0), .int .u64 (0)] 26 (0, 0)) :: M) (fun w h => h) ?_
        refine TC.drawL ((b4, .cells #[.int .i64 q0, .int .i64 q1, .int .i64 q2, .int .i64 q3, .int .i64 q4, .int .i64 q5, .int .i64 q6, .int .i64 q7, .int .i64 q8, .int .i64 q9, .int .i64 q10, .int .i64 q11, .int .i64 q12, .int .i64 q13, .int .i64 q14, .int .i64 q15, .int .i64 q16, .int .i64 q17, .int .i64 q18, .int .i64 q19] 83 (0, 0)) :: (b1, .cells #[.int .i64 (0), .int .i64 (0), .int .i64 (0), .int .i64 (0), .int .i64 (0), .int .i64 (0), .int .i64 (0), .int .i64 (0), .int .i64 (0), .int .i64 (0), .int .i64 (0), .int .i64 (0), .int .i64 (0), .int .i64 (0), .int .i64 (0), .int .i64 (0), .int .i64 (0), .int .i64 (0), .int .i64 (0), .int .i64 (0), .int .i64 (0), .int .i64 (0), .int .i64 (0), .int .i64 (0), .int .i64 (0), .int .u64 (0)] 26 (0, 0)) :: M) mixed 13 ?_
        refine TA.tk 0 1 rfl rfl rfl (Val.indexAddrA (i := 17) rfl rfl ar83 sz3 rfl (by first | decide | omega) rfl) ?_
        first
          | refine TA.tk 1 3 rfl rfl rfl (Val.load 0 rfl ag3 rfl rfl) ?_
          | refine TA.tk 1 3 rfl rfl rfl (Val.load 1 rfl ag3 rfl rfl) ?_
          | refine TA.tk 1 3 rfl rfl rfl (Val.load 2 rfl ag3 rfl rfl) ?_
          | refine TA.tk 1 3 rfl rfl rfl (Val.load 3 rfl ag3 rfl rfl) ?_
          | refine TA.tk 1 3 rfl rfl rfl (Val.load 4 rfl ag3 rfl rfl) ?_
          | refine TA.tk 1 3 rfl rfl rfl (Val.load 5 rfl ag3 rfl rfl) ?_
        refine TA.tk 2 7 rfl rfl rfl (Val.rem rfl rfl (by first | decide | omega) (r := a17) ha17) ?_
        first
          | refine TA.tk 3 15 rfl rfl rfl (Val.add rfl rfl (w_i64 (by omega) (by omega))) ?_
          | refine TA.tk 3 15 rfl rfl rfl (Val.add rfl rfl rfl) ?_
        refine TA.tk 4 31 rfl rfl rfl (Val.indexAddrA (i := 17) rfl rfl ar83 sz3 rfl (by first | decide | omega) rfl) ?_
        first
          | refine TA.tk 5 63 rfl rfl rfl (Val.load 0 rfl ag3 rfl rfl) ?_
          | refine TA.tk 5 63 rfl rfl rfl (Val.load 1 rfl ag3 rfl rfl) ?_
          | refine TA.tk 5 63 rfl rfl rfl (Val.load 2 rfl ag3 rfl rfl) ?_
          | refine TA.tk 5 63 rfl rfl rfl (Val.load 3 rfl ag3 rfl rfl) ?_
          | refine TA.tk 5 63 rfl rfl rfl (Val.load 4 rfl ag3 rfl rfl) ?_
          | refine TA.tk 5 63 rfl rfl rfl (Val.load 5 rfl ag3 rfl rfl) ?_
        refine TA.tk 6 127 rfl rfl rfl (Val.quo rfl rfl (by decide) (r := b17) (by rw [hb17]; exact w_i64 (by omega) (by omega))) ?_
        refine TA.tk 7 255 rfl rfl rfl (Val.rem rfl rfl (by first | decide | omega) (r := c17) hc17) ?_
        first
          | refine TA.tk 8 511 rfl rfl rfl (Val.add rfl rfl (w_i64 (by omega) (by omega))) ?_
          | refine TA.tk 8 511 rfl rfl rfl (Val.add rfl rfl rfl) ?_
        refine TA.tk 9 1023 rfl rfl rfl (Val.fieldAddr rfl fl26_19 sz3 rfl) ?_
        refine TA.one 10 (by kernel_rfl) ?_
        first
          | refine TO.dz 2047 none rfl rfl rfl rfl (Does.store (i := 0) rfl rfl rfl sz3 rfl rfl (by first | exact Nat.le_of_ble_eq_true rfl | decide | omega) rfl rfl) ?_
          | refine TO.dz 2047 none rfl rfl rfl rfl (Does.store (i := 1) rfl rfl rfl sz3 rfl rfl (by first | exact Nat.le_of_ble_eq_true rfl | decide | omega) rfl rfl) ?_
          | refine TO.dz 2047 none rfl rfl rfl rfl (Does.store (i := 2) rfl rfl rfl sz3 rfl rfl (by first | exact Nat.le_of_ble_eq_true rfl | decide | omega) rfl rfl) ?_
          | refine TO.dz 2047 none rfl rfl rfl rfl (Does.store (i := 3) rfl rfl rfl sz3 rfl rfl (by first | exact Nat.le_of_ble_eq_true rfl | decide | omega) rfl rfl) ?_
          | refine TO.dz 2047 none rfl rfl rfl rfl (Does.store (i := 4) rfl rfl rfl sz3 rfl rfl (by first | exact Nat.le_of_ble_eq_true rfl | decide | omega) rfl rfl) ?_
          | refine TO.dz 2047 none rfl rfl rfl rfl (Does.store (i := 5) rfl rfl rfl sz3 rfl rfl (by first | exact Nat.le_of_ble_eq_true rfl | decide | omega) rfl rfl) ?_
        rintro _ _ ⟨rfl, rfl⟩
        refine roK ?_
        refine TA.tk 11 4095 rfl rfl rfl (Val.fieldAddr rfl fl26_20 sz3 rfl) ?_
        refine TA.one 12 (by kernel_rfl) ?_
        first
          | refine TO.dz 8191 none rfl rfl rfl rfl (Does.store (i := 0) rfl rfl rfl sz3 rfl rfl (by first | exact Nat.le_of_ble_eq_true rfl | decide | omega) rfl rfl) ?_
          | refine TO.dz 8191 none rfl rfl rfl rfl (Does.store (i := 1) rfl rfl rfl sz3 rfl rfl (by first | exact Nat.le_of_ble_eq_true rfl | decide | omega) rfl rfl) ?_
          | refine TO.dz 8191 none rfl rfl rfl rfl (Does.store (i := 2) rfl rfl rfl sz3 rfl rfl (by first | exact Nat.le_of_ble_eq_true rfl | decide | omega) rfl rfl) ?_
          | refine TO.dz 8191 none rfl rfl rfl rfl (Does.store (i := 3) rfl rfl rfl sz3 rfl rfl (by first | exact Nat.le_of_ble_eq_true rfl | decide | omega) rfl rfl) ?_
          | refine TO.dz 8191 none rfl rfl rfl rfl (Does.store (i := 4) rfl rfl rfl sz3 rfl rfl (by first | exact Nat.le_of_ble_eq_true rfl | decide | omega) rfl rfl) ?_
          | refine TO.dz 8191 none rfl rfl rfl rfl (Does.store (i := 5) rfl rfl rfl sz3 rfl rfl (by first | exact Nat.le_of_ble_eq_true rfl | decide | omega) rfl rfl) ?_
        rintro _ _ ⟨rfl, rfl⟩
        refine roK ?_
        refine TA.done (by kernel_rfl) ?_
        refine AtX.then ?_
        refine TC.env (E' := [(2, _), (3, _), (4, _)]) (Sub.cons rfl (Sub.cons rfl (Sub.cons rfl (Sub.nil _)))) ?_
        refine TC.seq ?_
        refine TC.heap (M' := (b3, .cells #[.int .i64 (3 * a0 + 1 + a1), .int .i64 (a0), .int .i64 (1 + a2), .int .i64 (2 * a0 + 1 + a3), .int .i64 (1 + a4), .int .i64 (1 + a5), .int .i64 (1 + a6), .int .i64 (T0), .int .i64 (T1), .int .i64 (0), .int .i64 (0), .int .i64 (a9), .int .i64 (1 + a10), .int .i64 (1 + a10 + c10), .int .i64 (a11), .int .i64 (a12), .int .i64 (1 + a13), .int .i64 (1 + c13), .int .i64 (1 + a14), .int .i64 (1 + c14), .int .i64 (1 + a15), .int .i64 (a16), .int .i64 (1 + a17), .int .i64 (1 + c17), .int .i64 (256), .int .u64 (1)] 26 (0, 0)) :: (b4, .cells #[.int .i64 q0, .int .i64 q1, .int .i64 q2, .int .i64 q3, .int .i64 q4, .int .i64 q5, .int .i64 q6, .int .i64 q7, .int .i64 q8, .int .i64 q9, .int .i64 q10, .int .i64 q11, .int .i64 q12, .int .i64 q13, .int .i64 q14, .int .i64 q15, .int .i64 q16, .int .i64 q17, .int .i64 q18, .int .i64 q19] 83 (0, 0)) :: (b1, .cells #[.int .i64 (0), .int .i64 (0), .int .i64 (0), .int .i64 (0), .int .i64 (0), .int .i64 (0), .int .i64 (0), .int .i64 (0), .int .i64 (0), .int .i64 (0), .int .i64 (0), .int .i64 (0), .int .i64 (0), .int .i64 (0), .int .i64 (0), .int .i64 (0), .int .i64 (0), .int .i64 (0), .int .i64 (0), .int .i64 (0), .int .i64 (0), .int .i64 (0), .int .i64 (0), .int .i64 (0), .int .i64 (0), .int .u64 (0)] 26 (0, 0)) :: M) (fun w h => h) ?_
        refine TC.region ?_
        refine TL.val rfl rfl (Nat.le_of_ble_eq_true rfl) (Val.indexAddrA (i := 18) rfl rfl ar83 sz3 rfl (by first | decide | omega) rfl) ?_
        first
          | refine TL.val rfl rfl (Nat.le_of_ble_eq_true rfl) (Val.load 0 rfl ag3 rfl rfl) ?_
          | refine TL.val rfl rfl (Nat.le_of_ble_eq_true rfl) (Val.load 1 rfl ag3 rfl rfl) ?_
          | refine TL.val rfl rfl (Nat.le_of_ble_eq_true rfl) (Val.load 2 rfl ag3 rfl rfl) ?_
          | refine TL.val rfl rfl (Nat.le_of_ble_eq_true rfl) (Val.load 3 rfl ag3 rfl rfl) ?_
          | refine TL.val rfl rfl (Nat.le_of_ble_eq_true rfl) (Val.load 4 rfl ag3 rfl rfl) ?_
          | refine TL.val rfl rfl (Nat.le_of_ble_eq_true rfl) (Val.load 5 rfl ag3 rfl rfl) ?_
        refine TL.val rfl rfl (Nat.le_of_ble_eq_true rfl) (Val.rem rfl rfl (by first | decide | omega) (r := a18) ha18) ?_
        first
          | refine TL.val rfl rfl (Nat.le_of_ble_eq_true rfl) (Val.add rfl rfl (w_i64 (by omega) (by omega))) ?_
          | refine TL.val rfl rfl (Nat.le_of_ble_eq_true rfl) (Val.add rfl rfl rfl) ?_
        refine TL.val rfl rfl (Nat.le_of_ble_eq_true rfl) (Val.fieldAddr rfl fl26_21 sz3 rfl) ?_
        first
          | refine TL.does none rfl rfl rfl (Does.store (i := 0) rfl rfl rfl sz3 rfl rfl (by first | exact Nat.le_of_ble_eq_true rfl | decide | omega) rfl rfl) ?_
          | refine TL.does none rfl rfl rfl (Does.store (i := 1) rfl rfl rfl sz3 rfl rfl (by first | exact Nat.le_of_ble_eq_true rfl | decide | omega) rfl rfl) ?_
          | refine TL.does none rfl rfl rfl (Does.store (i := 2) rfl rfl rfl sz3 rfl rfl (by first | exact Nat.le_of_ble_eq_true rfl | decide | omega) rfl rfl) ?_
          | refine TL.does none rfl rfl rfl (Does.store (i := 3) rfl rfl rfl sz3 rfl rfl (by first | exact Nat.le_of_ble_eq_true rfl | decide | omega) rfl rfl) ?_
          | refine TL.does none rfl rfl rfl (Does.store (i := 4) rfl rfl rfl sz3 rfl rfl (by first | exact Nat.le_of_ble_eq_true rfl | decide | omega) rfl rfl) ?_
          | refine TL.does none rfl rfl rfl (Does.store (i := 5) rfl rfl rfl sz3 rfl rfl (by first | exact Nat.le_of_ble_eq_true rfl | decide | omega) rfl rfl) ?_
        rintro _ _ ⟨rfl, rfl⟩
        refine TL.nil ?_
        refine AtX.then ?_
        refine TC.env (E' := [(2, _), (3, _), (4, _)]) (Sub.cons rfl (Sub.cons rfl (Sub.cons rfl (Sub.nil _)))) ?_
        refine TC.seq ?_
        refine TC.heap (M' := (b3, .cells #[.int .i64 (3 * a0 + 1 + a1), .int .i64 (a0), .int .i64 (1 + a2), .int .i64 (2 * a0 + 1 + a3), .int .i64 (1 + a4), .int .i64 (1 + a5), .int .i64 (1 + a6), .int .i64 (T0), .int .i64 (T1), .int .i64 (0), .int .i64 (0), .int .i64 (a9), .int .i64 (1 + a10), .int .i64 (1 + a10 + c10), .int .i64 (a11), .int .i64 (a12), .int .i64 (1 + a13), .int .i64 (1 + c13), .int .i64 (1 + a14), .int .i64 (1 + c14), .int .i64 (1 + a15), .int .i64 (a16), .int .i64 (1 + a17), .int .i64 (1 + c17), .int .i64 (64 + a18), .int .u64 (1)] 26 (0, 0)) :: (b4, .cells #[.int .i64 q0, .int .i64 q1, .int .i64 q2, .int .i64 q3, .int .i64 q4, .int .i64 q5, .int .i64 q6, .int .i64 q7, .int .i64 q8, .int .i64 q9, .int .i64 q10, .int .i64 q11, .int .i64 q12, .int .i64 q13, .int .i64 q14, .int .i64 q15, .int .i64 q16, .int .i64 q17, .int .i64 q18, .int .i64 q19] 83 (0, 0)) :: (b1, .cells #[.int .i64 (0), .int .i64 (0), .int .i64 (0), .int .i64 (0), .int .i64 (0), .int .i64 (0), .int .i64 (0), .int .i64 (0), .int .i64 (0), .int .i64 (0), .int .i64 (0), .int .i64 (0), .int .i64 (0), .int .i64 (0), .int .i64 (0), .int .i64 (0), .int .i64 (0), .int .i64 (0), .int .i64 (0), .int .i64 (0), .int .i64 (0), .int .i64 (0), .int .i64 (0), .int .i64 (0), .int .i64 (0), .int .u64 (0)] 26 (0, 0)) :: M) (fun w h => h) ?_
        refine TC.region ?_
        refine TL.val rfl rfl (Nat.le_of_ble_eq_true rfl) (Val.indexAddrA (i := 19) rfl rfl ar83 sz3 rfl (by first | decide | omega) rfl) ?_
        first
          | refine TL.val rfl rfl (Nat.le_of_ble_eq_true rfl) (Val.load 0 rfl ag3 rfl rfl) ?_
          | refine TL.val rfl rfl (Nat.le_of_ble_eq_true rfl) (Val.load 1 rfl ag3 rfl rfl) ?_
          | refine TL.val rfl rfl (Nat.le_of_ble_eq_true rfl) (Val.load 2 rfl ag3 rfl rfl) ?_
          | refine TL.val rfl rfl (Nat.le_of_ble_eq_true rfl) (Val.load 3 rfl ag3 rfl rfl) ?_
          | refine TL.val rfl rfl (Nat.le_of_ble_eq_true rfl) (Val.load 4 rfl ag3 rfl rfl) ?_
          | refine TL.val rfl rfl (Nat.le_of_ble_eq_true rfl) (Val.load 5 rfl ag3 rfl rfl) ?_
        refine TL.val rfl rfl (Nat.le_of_ble_eq_true rfl) (Val.convI rfl iu3 in24 (w_u64 (by omega) (by omega))) ?_
        refine TL.val rfl rfl (Nat.le_of_ble_eq_true rfl) (Val.fieldAddr rfl fl26_22 sz24 rfl) ?_
        first
          | refine TL.does none rfl rfl rfl (Does.store (i := 0) rfl rfl rfl sz24 rfl rfl (by first | exact Nat.le_of_ble_eq_true rfl | decide | omega) rfl rfl) ?_
          | refine TL.does none rfl rfl rfl (Does.store (i := 1) rfl rfl rfl sz24 rfl rfl (by first | exact Nat.le_of_ble_eq_true rfl | decide | omega) rfl rfl) ?_
          | refine TL.does none rfl rfl rfl (Does.store (i := 2) rfl rfl rfl sz24 rfl rfl (by first | exact Nat.le_of_ble_eq_true rfl | decide | omega) rfl rfl) ?_
          | refine TL.does none rfl rfl rfl (Does.store (i := 3) rfl rfl rfl sz24 rfl rfl (by first | exact Nat.le_of_ble_eq_true rfl | decide | omega) rfl rfl) ?_
          | refine TL.does none rfl rfl rfl (Does.store (i := 4) rfl rfl rfl sz24 rfl rfl (by first | exact Nat.le_of_ble_eq_true rfl | decide | omega) rfl rfl) ?_
          | refine TL.does none rfl rfl rfl (Does.store (i := 5) rfl rfl rfl sz24 rfl rfl (by first | exact Nat.le_of_ble_eq_true rfl | decide | omega) rfl rfl) ?_
        rintro _ _ ⟨rfl, rfl⟩
        refine TL.nil ?_
        refine AtX.then ?_
        refine TC.env (E' := [(2, _), (3, _)]) (Sub.cons rfl (Sub.cons rfl (Sub.nil _))) ?_
        refine TC.seq ?_
        refine TC.heap (M' := (b3, .cells #[.int .i64 (3 * a0 + 1 + a1), .int .i64 (a0), .int .i64 (1 + a2), .int .i64 (2 * a0 + 1 + a3), .int .i64 (1 + a4), .int .i64 (1 + a5), .int .i64 (1 + a6), .int .i64 (T0), .int .i64 (T1), .int .i64 (0), .int .i64 (0), .int .i64 (a9), .int .i64 (1 + a10), .int .i64 (1 + a10 + c10), .int .i64 (a11), .int .i64 (a12), .int .i64 (1 + a13), .int .i64 (1 + c13), .int .i64 (1 + a14), .int .i64 (1 + c14), .int .i64 (1 + a15), .int .i64 (a16), .int .i64 (1 + a17), .int .i64 (1 + c17), .int .i64 (64 + a18), .int .u64 (q19)] 26 (0, 0)) :: (b4, .cells #[.int .i64 q0, .int .i64 q1, .int .i64 q2, .int .i64 q3, .int .i64 q4, .int .i64 q5, .int .i64 q6, .int .i64 q7, .int .i64 q8, .int .i64 q9, .int .i64 q10, .int .i64 q11, .int .i64 q12, .int .i64 q13, .int .i64 q14, .int .i64 q15, .int .i64 q16, .int .i64 q17, .int .i64 q18, .int .i64 q19] 83 (0, 0)) :: (b1, .cells #[.int .i64 (0), .int .i64 (0), .int .i64 (0), .int .i64 (0), .int .i64 (0), .int .i64 (0), .int .i64 (0), .int .i64 (0), .int .i64 (0), .int .i64 (0), .int .i64 (0), .int .i64 (0), .int .i64 (0), .int .i64 (0), .int .i64 (0), .int .i64 (0), .int .i64 (0), .int .i64 (0), .int .i64 (0), .int .i64 (0), .int .i64 (0), .int .i64 (0), .int .i64 (0), .int .i64 (0), .int .i64 (0), .int .u64 (0)] 26 (0, 0)) :: M) (fun w h => h) ?_
        refine TC.region ?_
        refine TL.val rfl rfl (Nat.le_of_ble_eq_true rfl) (Val.loadAgg (vs := [.int .i64 (3 * a0 + 1 + a1), .int .i64 (a0), .int .i64 (1 + a2), .int .i64 (2 * a0 + 1 + a3), .int .i64 (1 + a4), .int .i64 (1 + a5), .int .i64 (1 + a6), .int .i64 (T0), .int .i64 (T1), .int .i64 (0), .int .i64 (0), .int .i64 (a9), .int .i64 (1 + a10), .int .i64 (1 + a10 + c10), .int .i64 (a11), .int .i64 (a12), .int .i64 (1 + a13), .int .i64 (1 + c13), .int .i64 (1 + a14), .int .i64 (1 + c14), .int .i64 (1 + a15), .int .i64 (a16), .int .i64 (1 + a17), .int .i64 (1 + c17), .int .i64 (64 + a18), .int .u64 (q19)]) 0 rfl ag26 sz26 rfl rfl rfl) ?_
        refine TL.does none rfl rfl rfl (Does.storeR (ys' := [.int .i64 (3 * a0 + 1 + a1), .int .i64 (a0), .int .i64 (1 + a2), .int .i64 (2 * a0 + 1 + a3), .int .i64 (1 + a4), .int .i64 (1 + a5), .int .i64 (1 + a6), .int .i64 (T0), .int .i64 (T1), .int .i64 (0), .int .i64 (0), .int .i64 (a9), .int .i64 (1 + a10), .int .i64 (1 + a10 + c10), .int .i64 (a11), .int .i64 (a12), .int .i64 (1 + a13), .int .i64 (1 + c13), .int .i64 (1 + a14), .int .i64 (1 + c14), .int .i64 (1 + a15), .int .i64 (a16), .int .i64 (1 + a17), .int .i64 (1 + c17), .int .i64 (64 + a18), .int .u64 (q19)]) 2 rfl rfl rfl sz26 rfl rfl (by exact Nat.le_of_ble_eq_true rfl) rfl) ?_
        rintro _ _ ⟨rfl, rfl⟩
        refine TL.nil ?_
        refine AtX.then ?_
        refine TC.env (E' := [(2, _)]) (Sub.cons rfl (Sub.nil _)) ?_
        first
          | refine TC.ret1 (fn := Try.f11) (fun _ _ h => h) rfl (RV.agg (i := 0) rfl ag26 sz26 rfl rfl rfl) (M' := M) (by repeat (first | exact ro_refl | exact ro_pre | refine ro_tail ?_ | refine ro_app ?_)) ?_
          | refine TC.ret1 (fn := Try.f11) (fun _ _ h => h) rfl (RV.agg (i := 1) rfl ag26 sz26 rfl rfl rfl) (M' := M) (by repeat (first | exact ro_refl | exact ro_pre | refine ro_tail ?_ | refine ro_app ?_)) ?_
          | refine TC.ret1 (fn := Try.f11) (fun _ _ h => h) rfl (RV.agg (i := 2) rfl ag26 sz26 rfl rfl rfl) (M' := M) (by repeat (first | exact ro_refl | exact ro_pre | refine ro_tail ?_ | refine ro_app ?_)) ?_
          | refine TC.ret1 (fn := Try.f11) (fun _ _ h => h) rfl (RV.agg (i := 3) rfl ag26 sz26 rfl rfl rfl) (M' := M) (by repeat (first | exact ro_refl | exact ro_pre | refine ro_tail ?_ | refine ro_app ?_)) ?_
          | refine TC.ret1 (fn := Try.f11) (fun _ _ h => h) rfl (RV.agg (i := 4) rfl ag26 sz26 rfl rfl rfl) (M' := M) (by repeat (first | exact ro_refl | exact ro_pre | refine ro_tail ?_ | refine ro_app ?_)) ?_
          | refine TC.ret1 (fn := Try.f11) (fun _ _ h => h) rfl (RV.agg (i := 5) rfl ag26 sz26 rfl rfl rfl) (M' := M) (by repeat (first | exact ro_refl | exact ro_pre | refine ro_tail ?_ | refine ro_app ?_)) ?_
        refine ⟨⟨3 * a0 + 1 + a1, a0, 1 + a2, 2 * a0 + 1 + a3, 1 + a4, 1 + a5, 1 + a6, T0, T1, 0, 0, a9, 1 + a10, 1 + a10 + c10, a11, a12, 1 + a13, 1 + c13, 1 + a14, 1 + c14, 1 + a15, a16, 1 + a17, 1 + c17, 64 + a18, q19⟩, rfl, ?_, rfl⟩
        exact fit_fin ga0 la0 ga1 la1 ga2 la2 ga3 la3 ga4 la4 ga5 la5 ga6 la6 ga9 la9 ga10 la10 ga11 la11 ga12 la12 ga13 la13 ga14 la14 ga15 la15 ga16 la16 ga17 la17 ga18 la18 gc10 lc10 gc13 lc13 gc14 lc14 gc17 lc17 hT0b hT1b hq19

end Go.Proofs.Ytphoapajlcaoeaa
