/- Texts put together: A12, A21, A22, A23, A24, A25, A26, A27, A28. -/
import Derived.Test.YtphoapajlcaoeaaW1
import Derived.Test.YtphoapajlcaoeaaG1
import Derived.Test.YtphoapajlcaoeaaG2
/- walks -/
set_option linter.unusedVariables false
set_option linter.unusedSimpArgs false
set_option maxRecDepth 100000
set_option maxHeartbeats 4000000
namespace Go.Proofs.Ytphoapajlcaoeaa
open Go Go.X
/-- quorumite/quorumitelaw3.Fit -/
theorem Fit_fn (zs : List Int) (A : Option Addr) (nn cc : Nat) (M : Hp) (hA : RdS M A (zs.map (Value.int .i64))) (hn : nn = zs.length) : FnC Try.prog 11 #[.slice A nn cc] M (fun v M' => ∃ c : Cf, v = .agg c.cs ∧ OkC c ∧ M = M') := by
  subst hn
  refine FnC.intro Try.func11 rfl 173 rfl (by simp) (fun z => ?_)
  refine TC.env (E' := [(0, _)]) (Sub.cons rfl (Sub.nil _)) ?_
  refine TC.seq ?_
  refine TC.region ?_
  refine TL.does (some 2) rfl rfl rfl (Does.alloc ze26 rfl) ?_
  rintro _ _ ⟨b1, rfl, rfl⟩
  refine TL.nil ?_
  refine AtX.then ?_
  refine TC.seq ?_
  refine TC.region ?_
  refine TL.does (some 7) rfl rfl rfl (Does.callF go43 rfl (refDefault_fn _)) ?_
  rintro _ _ ⟨rfl, rfl⟩
  refine TL.does (some 3) rfl rfl rfl (Does.alloc ze26 rfl) ?_
  rintro _ _ ⟨b3, rfl, rfl⟩
  refine TL.does none rfl rfl rfl (Does.storeR (ys' := [.int .i64 (4), .int .i64 (1), .int .i64 (1), .int .i64 (3), .int .i64 (2), .int .i64 (2), .int .i64 (32), .int .i64 (1000), .int .i64 (0), .int .i64 (0), .int .i64 (0), .int .i64 (100), .int .i64 (1), .int .i64 (100), .int .i64 (0), .int .i64 (3), .int .i64 (4), .int .i64 (100), .int .i64 (4), .int .i64 (50), .int .i64 (2), .int .i64 (100), .int .i64 (3), .int .i64 (4), .int .i64 (256), .int .u64 (1)]) 0 rfl rfl rfl sz26 rfl rfl (by exact Nat.le_of_ble_eq_true rfl) rfl) ?_
  rintro _ _ ⟨rfl, rfl⟩
  refine TL.nil ?_
  refine AtX.then ?_
  refine TC.env (E' := [(0, _), (2, _), (3, _)]) (Sub.cons rfl (Sub.cons rfl (Sub.cons rfl (Sub.nil _)))) ?_
  refine TC.seq ?_
  refine TC.region ?_
  refine TL.does (some 4) rfl rfl rfl (Does.alloc ze83 rfl) ?_
  rintro _ _ ⟨b4, rfl, rfl⟩
  refine TL.nil ?_
  refine AtX.then ?_
  refine TC.env (E' := [(0, _), (2, _), (3, _), (4, _)]) (Sub.cons rfl (Sub.cons rfl (Sub.cons rfl (Sub.cons rfl (Sub.nil _))))) ?_
  refine TC.seq ?_
  refine TC.seq ?_
  refine TC.heap (M' := (b3, .cells #[.int .i64 (4), .int .i64 (1), .int .i64 (1), .int .i64 (3), .int .i64 (2), .int .i64 (2), .int .i64 (32), .int .i64 (1000), .int .i64 (0), .int .i64 (0), .int .i64 (0), .int .i64 (100), .int .i64 (1), .int .i64 (100), .int .i64 (0), .int .i64 (3), .int .i64 (4), .int .i64 (100), .int .i64 (4), .int .i64 (50), .int .i64 (2), .int .i64 (100), .int .i64 (3), .int .i64 (4), .int .i64 (256), .int .u64 (1)] 26 (0, 0)) :: (b4, row 83 ((List.replicate 20 (0 : Int)).map (Value.int .i64))) :: (b1, .cells #[.int .i64 (0), .int .i64 (0), .int .i64 (0), .int .i64 (0), .int .i64 (0), .int .i64 (0), .int .i64 (0), .int .i64 (0), .int .i64 (0), .int .i64 (0), .int .i64 (0), .int .i64 (0), .int .i64 (0), .int .i64 (0), .int .i64 (0), .int .i64 (0), .int .i64 (0), .int .i64 (0), .int .i64 (0), .int .i64 (0), .int .i64 (0), .int .i64 (0), .int .i64 (0), .int .i64 (0), .int .i64 (0), .int .u64 (0)] 26 (0, 0)) :: M) (fun w h => h.perm (List.Perm.swap _ _ _)) ?_
  refine TC.region ?_
  refine TL.val rfl rfl (Nat.le_of_ble_eq_true rfl) (Val.assign rfl) ?_
  refine TL.nil ?_
  refine AtX.then ?_
  refine TC.env (E' := [(0, _), (2, _), (3, _), (4, _), (5, _)]) (Sub.cons rfl (Sub.cons rfl (Sub.cons rfl (Sub.cons rfl (Sub.cons rfl (Sub.nil _)))))) ?_
  refine TC.block ?_
  refine TC.loop (ι := (Nat × List Int)) (fun i => [(0, .slice A zs.length cc), (2, .pointer (some ⟨b1, 0, none⟩)), (3, .pointer (some ⟨b3, 0, none⟩)), (4, .pointer (some ⟨b4, 0, none⟩)), (5, .int .i64 (i.1 : Nat))]) (fun i => (b3, .cells #[.int .i64 (4), .int .i64 (1), .int .i64 (1), .int .i64 (3), .int .i64 (2), .int .i64 (2), .int .i64 (32), .int .i64 (1000), .int .i64 (0), .int .i64 (0), .int .i64 (0), .int .i64 (100), .int .i64 (1), .int .i64 (100), .int .i64 (0), .int .i64 (3), .int .i64 (4), .int .i64 (100), .int .i64 (4), .int .i64 (50), .int .i64 (2), .int .i64 (100), .int .i64 (3), .int .i64 (4), .int .i64 (256), .int .u64 (1)] 26 (0, 0)) :: (b4, row 83 (i.2.map (Value.int .i64))) :: (b1, .cells #[.int .i64 (0), .int .i64 (0), .int .i64 (0), .int .i64 (0), .int .i64 (0), .int .i64 (0), .int .i64 (0), .int .i64 (0), .int .i64 (0), .int .i64 (0), .int .i64 (0), .int .i64 (0), .int .i64 (0), .int .i64 (0), .int .i64 (0), .int .i64 (0), .int .i64 (0), .int .i64 (0), .int .i64 (0), .int .i64 (0), .int .i64 (0), .int .i64 (0), .int .i64 (0), .int .i64 (0), .int .i64 (0), .int .u64 (0)] 26 (0, 0)) :: M) (fun i => i.1 ≤ 20 ∧ i.2.length = 20 ∧ ∀ x ∈ i.2, 0 ≤ x ∧ x < 100000) (fun i => 20 - i.1) (0, List.replicate 20 0) ?_ (Sub.cons rfl (Sub.cons rfl (Sub.cons rfl (Sub.cons rfl (Sub.cons rfl (Sub.nil _)))))) (fun _ h => h) ?_
  · exact ⟨by omega, by simp, fun x hx => by have := List.eq_of_mem_replicate hx; omega⟩
  rintro ⟨i, q⟩ ⟨hi, hq, hb⟩
  dsimp only at hi hq hb ⊢
  refine TC.seq ?_
  refine TC.seq ?_
  refine TC.region ?_
  refine TL.val rfl rfl (Nat.le_of_ble_eq_true rfl) (Val.move rfl) ?_
  refine TL.val rfl rfl (Nat.le_of_ble_eq_true rfl) (Val.move rfl) ?_
  refine TL.val rfl rfl (Nat.le_of_ble_eq_true rfl) (Val.lenSl rfl rfl sl22) ?_
  refine TL.val rfl rfl (Nat.le_of_ble_eq_true rfl) (Val.lss rfl rfl) ?_
  refine TL.val rfl rfl (Nat.le_of_ble_eq_true rfl) (Val.move rfl) ?_
  refine TL.gen (fun g5 hg5 => ?_)
  refine TL.gval rfl rfl (Nat.le_of_ble_eq_true rfl) rfl (Nat.le_of_ble_eq_true rfl) rfl (fun hg => by subst hg; exact (Val.move rfl)) ?_
  refine TL.gval rfl rfl (Nat.le_of_ble_eq_true rfl) rfl (Nat.le_of_ble_eq_true rfl) rfl (fun hg => by subst hg; exact (Val.lss rfl rfl)) ?_
  refine TL.val rfl rfl (Nat.le_of_ble_eq_true rfl) (Val.pickAnd rfl rfl rfl) ?_
  refine TL.nil ?_
  refine AtX.then ?_
  first | refine TC.condP rfl (fun c1 => ?_) (fun c1 => ?_) | refine TC.condN rfl (fun c1 => ?_) (fun c1 => ?_) | refine TC.condB rfl (fun c1 => ?_) (fun c1 => ?_) | refine TC.cond rfl (fun c1 => ?_) (fun c1 => ?_)
  · skip
    refine TC.skip ?_
    refine AtX.then ?_
    refine TC.seq ?_
    refine TC.block ?_
    have hlt : i < zs.length ∧ i < 20 := by grind
    obtain ⟨x, hx⟩ : ∃ x, zs[i]? = some x := ⟨_, List.getElem?_eq_getElem hlt.1⟩
    obtain ⟨bA, oA, rfl, hR⟩ := RdS.get hA (by simp; omega)
    obtain ⟨r, hr, gr, lr⟩ := rem_ex (m := IntKind.u64.wrap x) (d := 100000) (by rw [w_u64m]; omega) (by decide)
    refine TC.region ?_
    refine TL.val rfl rfl (Nat.le_of_ble_eq_true rfl) (Val.move rfl) ?_
    refine TL.val rfl rfl (Nat.le_of_ble_eq_true rfl) (Val.move rfl) ?_
    refine TL.val rfl rfl (Nat.le_of_ble_eq_true rfl) (Val.move rfl) ?_
    refine TL.val rfl rfl (Nat.le_of_ble_eq_true rfl) (Val.indexAddr (i := i) (r := oA + i) rfl rfl sl22 sz3 rfl hlt.1 (by omega)) ?_
    refine TL.val rfl rfl (Nat.le_of_ble_eq_true rfl) (Val.loadRd (o := oA) (j := i) rfl ag3 (((hR.cons _).cons _).cons _) rfl (map_get hx)) ?_
    refine TL.val rfl rfl (Nat.le_of_ble_eq_true rfl) (Val.convI rfl iu3 in32 rfl) ?_
    refine TL.val rfl rfl (Nat.le_of_ble_eq_true rfl) (Val.rem rfl rfl (by decide) (r := r) hr) ?_
    refine TL.val rfl rfl (Nat.le_of_ble_eq_true rfl) (Val.convI rfl iu32 in3 (w_i64 (by omega) (by omega))) ?_
    refine TL.val rfl rfl (Nat.le_of_ble_eq_true rfl) (Val.indexAddrA (i := i) (r := i) rfl rfl ar83 sz3 rfl hlt.2 (by omega)) ?_
    refine TL.does none rfl rfl rfl (Does.storeR 1 rfl rfl rfl sz3 rfl rfl (by simp; omega) (map_set1 (f := Value.int .i64) (by omega) r)) ?_
    rintro _ _ ⟨rfl, rfl⟩
    refine TL.nil ?_
    refine AtX.blk ?_
    refine AtX.then ?_
    refine TC.region ?_
    refine TL.val rfl rfl (Nat.le_of_ble_eq_true rfl) (Val.move rfl) ?_
    refine TL.val rfl rfl (Nat.le_of_ble_eq_true rfl) (Val.add rfl rfl (w_i64 (by omega) (by omega))) ?_
    refine TL.val rfl rfl (Nat.le_of_ble_eq_true rfl) (Val.assign rfl) ?_
    refine TL.nil ?_
    refine AtX.round (i := (i, q)) (i + 1, q.set i r) ?_ ?_ (Sub.cons rfl (Sub.cons rfl (Sub.cons rfl (Sub.cons rfl (Sub.cons rfl (Sub.nil _)))))) (fun _ h => h)
    · exact ⟨by omega, by simpa using hq, set_bd hb ⟨gr, lr⟩⟩
    · show 20 - (i + 1) < 20 - i; omega
  · skip
    refine TC.exit ?_
    refine AtX.seqX ?_
    refine AtX.seqX ?_
    refine AtX.hit ?_
    refine AtX.then ?_
    refine TC.env (E' := [(0, _), (2, _), (3, _), (4, _)]) (Sub.cons rfl (Sub.cons rfl (Sub.cons rfl (Sub.cons rfl (Sub.nil _))))) ?_
    refine TC.seq ?_
    refine TC.seq ?_
    refine TC.region ?_
    refine TL.val rfl rfl (Nat.le_of_ble_eq_true rfl) (Val.move rfl) ?_
    refine TL.val rfl rfl (Nat.le_of_ble_eq_true rfl) (Val.lenSl rfl rfl sl22) ?_
    refine TL.val rfl rfl (Nat.le_of_ble_eq_true rfl) (Val.eqlI rfl rfl) ?_
    refine TL.nil ?_
    refine AtX.then ?_
    refine TC.env (E' := [(2, _), (3, _), (4, _), (29, _)]) (Sub.cons rfl (Sub.cons rfl (Sub.cons rfl (Sub.cons rfl (Sub.nil _))))) ?_
    first | refine TC.condP rfl (fun c2 => ?_) (fun c2 => ?_) | refine TC.condN rfl (fun c2 => ?_) (fun c2 => ?_) | refine TC.condB rfl (fun c2 => ?_) (fun c2 => ?_) | refine TC.cond rfl (fun c2 => ?_) (fun c2 => ?_)
    · skip
      refine TC.env (E' := [(2, _), (3, _), (4, _)]) (Sub.cons rfl (Sub.cons rfl (Sub.cons rfl (Sub.nil _)))) ?_
      refine TC.seq ?_
      refine TC.region ?_
      refine TL.val rfl rfl (Nat.le_of_ble_eq_true rfl) (Val.loadAgg (vs := [.int .i64 (4), .int .i64 (1), .int .i64 (1), .int .i64 (3), .int .i64 (2), .int .i64 (2), .int .i64 (32), .int .i64 (1000), .int .i64 (0), .int .i64 (0), .int .i64 (0), .int .i64 (100), .int .i64 (1), .int .i64 (100), .int .i64 (0), .int .i64 (3), .int .i64 (4), .int .i64 (100), .int .i64 (4), .int .i64 (50), .int .i64 (2), .int .i64 (100), .int .i64 (3), .int .i64 (4), .int .i64 (256), .int .u64 (1)]) 0 rfl ag26 sz26 rfl rfl rfl) ?_
      refine TL.does none rfl rfl rfl (Does.storeR (ys' := [.int .i64 (4), .int .i64 (1), .int .i64 (1), .int .i64 (3), .int .i64 (2), .int .i64 (2), .int .i64 (32), .int .i64 (1000), .int .i64 (0), .int .i64 (0), .int .i64 (0), .int .i64 (100), .int .i64 (1), .int .i64 (100), .int .i64 (0), .int .i64 (3), .int .i64 (4), .int .i64 (100), .int .i64 (4), .int .i64 (50), .int .i64 (2), .int .i64 (100), .int .i64 (3), .int .i64 (4), .int .i64 (256), .int .u64 (1)]) 2 rfl rfl rfl sz26 rfl rfl (by exact Nat.le_of_ble_eq_true rfl) rfl) ?_
      rintro _ _ ⟨rfl, rfl⟩
      refine TL.nil ?_
      refine AtX.then ?_
      refine TC.env (E' := [(2, _), (3, _), (4, _)]) (Sub.cons rfl (Sub.cons rfl (Sub.cons rfl (Sub.nil _)))) ?_
      refine TC.ret1 (fn := Try.f11) (fun _ _ h => h) rfl (RV.agg (i := 2) rfl ag26 sz26 rfl rfl rfl) (M' := M) (by repeat (first | exact ro_refl | exact ro_pre | refine ro_tail ?_ | refine ro_app ?_)) ?_
      exact ⟨cfD, rfl, okD, rfl⟩
    · skip
      refine TC.env (E' := [(2, _), (3, _), (4, _)]) (Sub.cons rfl (Sub.cons rfl (Sub.cons rfl (Sub.nil _)))) ?_
      refine TC.skip ?_
      refine AtX.then ?_
      refine TC.env (E' := [(2, _), (3, _), (4, _)]) (Sub.cons rfl (Sub.cons rfl (Sub.cons rfl (Sub.nil _)))) ?_
      refine TC.seq ?_
      obtain ⟨q0, q1, q2, q3, q4, q5, q6, q7, q8, q9, q10, q11, q12, q13, q14, q15, q16, q17, q18, q19, rfl⟩ := list20 hq
      simp only [List.mem_cons, List.not_mem_nil, or_false, forall_eq_or_imp, forall_eq] at hb
      obtain ⟨hq0, hq1, hq2, hq3, hq4, hq5, hq6, hq7, hq8, hq9, hq10, hq11, hq12, hq13, hq14, hq15, hq16, hq17, hq18, hq19⟩ := hb
      obtain ⟨a0, ha0, ga0, la0⟩ := rem_ex (m := q0) (d := 3) (by omega) (by decide)
      obtain ⟨a1, ha1, ga1, la1⟩ := rem_ex (m := q1) (d := 4) (by omega) (by decide)
      obtain ⟨a2, ha2, ga2, la2⟩ := rem_ex (m := q2) (d := 2) (by omega) (by decide)
      obtain ⟨a4, ha4, ga4, la4⟩ := rem_ex (m := q4) (d := 3) (by omega) (by decide)
      obtain ⟨a5, ha5, ga5, la5⟩ := rem_ex (m := q5) (d := 3) (by omega) (by decide)
      obtain ⟨a6, ha6, ga6, la6⟩ := rem_ex (m := q6) (d := 64) (by omega) (by decide)
      obtain ⟨a7, ha7, ga7, la7⟩ := rem_ex (m := q7) (d := 2000) (by omega) (by decide)
      obtain ⟨a8, ha8, ga8, la8⟩ := rem_ex (m := q8) (d := 2000) (by omega) (by decide)
      obtain ⟨a9, ha9, ga9, la9⟩ := rem_ex (m := q9) (d := 300) (by omega) (by decide)
      obtain ⟨a10, ha10, ga10, la10⟩ := rem_ex (m := q10) (d := 5) (by omega) (by decide)
      obtain ⟨a11, ha11, ga11, la11⟩ := rem_ex (m := q11) (d := 4) (by omega) (by decide)
      obtain ⟨a12, ha12, ga12, la12⟩ := rem_ex (m := q12) (d := 5) (by omega) (by decide)
      obtain ⟨a13, ha13, ga13, la13⟩ := rem_ex (m := q13) (d := 5) (by omega) (by decide)
      obtain ⟨a14, ha14, ga14, la14⟩ := rem_ex (m := q14) (d := 5) (by omega) (by decide)
      obtain ⟨a15, ha15, ga15, la15⟩ := rem_ex (m := q15) (d := 4) (by omega) (by decide)
      obtain ⟨a16, ha16, ga16, la16⟩ := rem_ex (m := q16) (d := 500) (by omega) (by decide)
      obtain ⟨a17, ha17, ga17, la17⟩ := rem_ex (m := q17) (d := 3) (by omega) (by decide)
      obtain ⟨a18, ha18, ga18, la18⟩ := rem_ex (m := q18) (d := 300) (by omega) (by decide)
      obtain ⟨b10, hb10, gb10, lb10⟩ := quo_ex (m := q10) (d := 5) (by omega) (by decide)
      obtain ⟨b13, hb13, gb13, lb13⟩ := quo_ex (m := q13) (d := 5) (by omega) (by decide)
      obtain ⟨b14, hb14, gb14, lb14⟩ := quo_ex (m := q14) (d := 5) (by omega) (by decide)
      obtain ⟨b17, hb17, gb17, lb17⟩ := quo_ex (m := q17) (d := 3) (by omega) (by decide)
      obtain ⟨c10, hc10, gc10, lc10⟩ := rem_ex (m := b10) (d := 60) (by omega) (by decide)
      obtain ⟨c13, hc13, gc13, lc13⟩ := rem_ex (m := b13) (d := 150) (by omega) (by decide)
      obtain ⟨c14, hc14, gc14, lc14⟩ := rem_ex (m := b14) (d := 100) (by omega) (by decide)
      obtain ⟨c17, hc17, gc17, lc17⟩ := rem_ex (m := b17) (d := 4) (by omega) (by decide)
      obtain ⟨a3, ha3, ga3, la3⟩ := rem_ex (m := q3) (d := 3 * a0 + 1 + a1 - 2 * a0) (by omega) (by omega)
      refine TC.heap (M' := (b3, .cells #[.int .i64 (4), .int .i64 (1), .int .i64 (1), .int .i64 (3), .int .i64 (2), .int .i64 (2), .int .i64 (32), .int .i64 (1000), .int .i64 (0), .int .i64 (0), .int .i64 (0), .int .i64 (100), .int .i64 (1), .int .i64 (100), .int .i64 (0), .int .i64 (3), .int .i64 (4), .int .i64 (100), .int .i64 (4), .int .i64 (50), .int .i64 (2), .int .i64 (100), .int .i64 (3), .int .i64 (4), .int .i64 (256), .int .u64 (1)] 26 (0, 0)) :: (b4, .cells #[.int .i64 q0, .int .i64 q1, .int .i64 q2, .int .i64 q3, .int .i64 q4, .int .i64 q5, .int .i64 q6, .int .i64 q7, .int .i64 q8, .int .i64 q9, .int .i64 q10, .int .i64 q11, .int .i64 q12, .int .i64 q13, .int .i64 q14, .int .i64 q15, .int .i64 q16, .int .i64 q17, .int .i64 q18, .int .i64 q19] 83 (0, 0)) :: (b1, .cells #[.int .i64 (0), .int .i64 (0), .int .i64 (0), .int .i64 (0), .int .i64 (0), .int .i64 (0), .int .i64 (0), .int .i64 (0), .int .i64 (0), .int .i64 (0), .int .i64 (0), .int .i64 (0), .int .i64 (0), .int .i64 (0), .int .i64 (0), .int .i64 (0), .int .i64 (0), .int .i64 (0), .int .i64 (0), .int .i64 (0), .int .i64 (0), .int .i64 (0), .int .i64 (0), .int .i64 (0), .int .i64 (0), .int .u64 (0)] 26 (0, 0)) :: M) (fun w h => h) ?_
      refine TC.region ?_
      refine TL.val rfl rfl (Nat.le_of_ble_eq_true rfl) (Val.indexAddrA (i := 0) rfl rfl ar83 sz3 rfl (by first | decide | omega) rfl) ?_
      refine TL.val rfl rfl (Nat.le_of_ble_eq_true rfl) (Val.load 1 rfl ag3 rfl rfl) ?_
      refine TL.val rfl rfl (Nat.le_of_ble_eq_true rfl) (Val.rem rfl rfl (by first | decide | omega) (r := a0) ha0) ?_
      refine TL.val rfl rfl (Nat.le_of_ble_eq_true rfl) (Val.fieldAddr rfl fl26_1 sz3 rfl) ?_
      refine TL.does none rfl rfl rfl (Does.store (i := 0) rfl rfl rfl sz3 rfl rfl (by first | exact Nat.le_of_ble_eq_true rfl | decide | omega) rfl rfl) ?_
      rintro _ _ ⟨rfl, rfl⟩
      refine TL.nil ?_
      refine AtX.then ?_
      refine TC.env (E' := [(2, _), (3, _), (4, _)]) (Sub.cons rfl (Sub.cons rfl (Sub.cons rfl (Sub.nil _)))) ?_
      refine TC.seq ?_
      refine TC.heap (M' := (b3, .cells #[.int .i64 (4), .int .i64 (a0), .int .i64 (1), .int .i64 (3), .int .i64 (2), .int .i64 (2), .int .i64 (32), .int .i64 (1000), .int .i64 (0), .int .i64 (0), .int .i64 (0), .int .i64 (100), .int .i64 (1), .int .i64 (100), .int .i64 (0), .int .i64 (3), .int .i64 (4), .int .i64 (100), .int .i64 (4), .int .i64 (50), .int .i64 (2), .int .i64 (100), .int .i64 (3), .int .i64 (4), .int .i64 (256), .int .u64 (1)] 26 (0, 0)) :: (b4, .cells #[.int .i64 q0, .int .i64 q1, .int .i64 q2, .int .i64 q3, .int .i64 q4, .int .i64 q5, .int .i64 q6, .int .i64 q7, .int .i64 q8, .int .i64 q9, .int .i64 q10, .int .i64 q11, .int .i64 q12, .int .i64 q13, .int .i64 q14, .int .i64 q15, .int .i64 q16, .int .i64 q17, .int .i64 q18, .int .i64 q19] 83 (0, 0)) :: (b1, .cells #[.int .i64 (0), .int .i64 (0), .int .i64 (0), .int .i64 (0), .int .i64 (0), .int .i64 (0), .int .i64 (0), .int .i64 (0), .int .i64 (0), .int .i64 (0), .int .i64 (0), .int .i64 (0), .int .i64 (0), .int .i64 (0), .int .i64 (0), .int .i64 (0), .int .i64 (0), .int .i64 (0), .int .i64 (0), .int .i64 (0), .int .i64 (0), .int .i64 (0), .int .i64 (0), .int .i64 (0), .int .i64 (0), .int .u64 (0)] 26 (0, 0)) :: M) (fun w h => h) ?_
      refine TC.region ?_
      refine TL.val rfl rfl (Nat.le_of_ble_eq_true rfl) (Val.fieldAddr rfl fl26_1 sz3 rfl) ?_
      refine TL.val rfl rfl (Nat.le_of_ble_eq_true rfl) (Val.load 0 rfl ag3 rfl rfl) ?_
      refine TL.val rfl rfl (Nat.le_of_ble_eq_true rfl) (Val.mul rfl rfl (w_i64 (by omega) (by omega))) ?_
      refine TL.val rfl rfl (Nat.le_of_ble_eq_true rfl) (Val.add rfl rfl (w_i64 (by omega) (by omega))) ?_
      refine TL.val rfl rfl (Nat.le_of_ble_eq_true rfl) (Val.indexAddrA (i := 1) rfl rfl ar83 sz3 rfl (by first | decide | omega) rfl) ?_
      refine TL.val rfl rfl (Nat.le_of_ble_eq_true rfl) (Val.load 1 rfl ag3 rfl rfl) ?_
      refine TL.val rfl rfl (Nat.le_of_ble_eq_true rfl) (Val.rem rfl rfl (by first | decide | omega) (r := a1) ha1) ?_
      refine TL.val rfl rfl (Nat.le_of_ble_eq_true rfl) (Val.add rfl rfl (w_i64 (by omega) (by omega))) ?_
      refine TL.val rfl rfl (Nat.le_of_ble_eq_true rfl) (Val.fieldAddr rfl fl26_0 sz3 rfl) ?_
      refine TL.does none rfl rfl rfl (Does.store (i := 0) rfl rfl rfl sz3 rfl rfl (by first | exact Nat.le_of_ble_eq_true rfl | decide | omega) rfl rfl) ?_
      rintro _ _ ⟨rfl, rfl⟩
      refine TL.nil ?_
      refine AtX.then ?_
      refine TC.env (E' := [(2, _), (3, _), (4, _)]) (Sub.cons rfl (Sub.cons rfl (Sub.cons rfl (Sub.nil _)))) ?_
      refine TC.seq ?_
      refine TC.heap (M' := (b3, .cells #[.int .i64 (3 * a0 + 1 + a1), .int .i64 (a0), .int .i64 (1), .int .i64 (3), .int .i64 (2), .int .i64 (2), .int .i64 (32), .int .i64 (1000), .int .i64 (0), .int .i64 (0), .int .i64 (0), .int .i64 (100), .int .i64 (1), .int .i64 (100), .int .i64 (0), .int .i64 (3), .int .i64 (4), .int .i64 (100), .int .i64 (4), .int .i64 (50), .int .i64 (2), .int .i64 (100), .int .i64 (3), .int .i64 (4), .int .i64 (256), .int .u64 (1)] 26 (0, 0)) :: (b4, .cells #[.int .i64 q0, .int .i64 q1, .int .i64 q2, .int .i64 q3, .int .i64 q4, .int .i64 q5, .int .i64 q6, .int .i64 q7, .int .i64 q8, .int .i64 q9, .int .i64 q10, .int .i64 q11, .int .i64 q12, .int .i64 q13, .int .i64 q14, .int .i64 q15, .int .i64 q16, .int .i64 q17, .int .i64 q18, .int .i64 q19] 83 (0, 0)) :: (b1, .cells #[.int .i64 (0), .int .i64 (0), .int .i64 (0), .int .i64 (0), .int .i64 (0), .int .i64 (0), .int .i64 (0), .int .i64 (0), .int .i64 (0), .int .i64 (0), .int .i64 (0), .int .i64 (0), .int .i64 (0), .int .i64 (0), .int .i64 (0), .int .i64 (0), .int .i64 (0), .int .i64 (0), .int .i64 (0), .int .i64 (0), .int .i64 (0), .int .i64 (0), .int .i64 (0), .int .i64 (0), .int .i64 (0), .int .u64 (0)] 26 (0, 0)) :: M) (fun w h => h) ?_
      refine TC.region ?_
      refine TL.val rfl rfl (Nat.le_of_ble_eq_true rfl) (Val.indexAddrA (i := 2) rfl rfl ar83 sz3 rfl (by first | decide | omega) rfl) ?_
      refine TL.val rfl rfl (Nat.le_of_ble_eq_true rfl) (Val.load 1 rfl ag3 rfl rfl) ?_
      refine TL.val rfl rfl (Nat.le_of_ble_eq_true rfl) (Val.rem rfl rfl (by first | decide | omega) (r := a2) ha2) ?_
      refine TL.val rfl rfl (Nat.le_of_ble_eq_true rfl) (Val.add rfl rfl (w_i64 (by omega) (by omega))) ?_
      refine TL.val rfl rfl (Nat.le_of_ble_eq_true rfl) (Val.fieldAddr rfl fl26_2 sz3 rfl) ?_
      refine TL.does none rfl rfl rfl (Does.store (i := 0) rfl rfl rfl sz3 rfl rfl (by first | exact Nat.le_of_ble_eq_true rfl | decide | omega) rfl rfl) ?_
      rintro _ _ ⟨rfl, rfl⟩
      refine TL.nil ?_
      refine AtX.then ?_
      refine TC.env (E' := [(2, _), (3, _), (4, _)]) (Sub.cons rfl (Sub.cons rfl (Sub.cons rfl (Sub.nil _)))) ?_
      refine TC.seq ?_
      refine TC.heap (M' := (b3, .cells #[.int .i64 (3 * a0 + 1 + a1), .int .i64 (a0), .int .i64 (1 + a2), .int .i64 (3), .int .i64 (2), .int .i64 (2), .int .i64 (32), .int .i64 (1000), .int .i64 (0), .int .i64 (0), .int .i64 (0), .int .i64 (100), .int .i64 (1), .int .i64 (100), .int .i64 (0), .int .i64 (3), .int .i64 (4), .int .i64 (100), .int .i64 (4), .int .i64 (50), .int .i64 (2), .int .i64 (100), .int .i64 (3), .int .i64 (4), .int .i64 (256), .int .u64 (1)] 26 (0, 0)) :: (b4, .cells #[.int .i64 q0, .int .i64 q1, .int .i64 q2, .int .i64 q3, .int .i64 q4, .int .i64 q5, .int .i64 q6, .int .i64 q7, .int .i64 q8, .int .i64 q9, .int .i64 q10, .int .i64 q11, .int .i64 q12, .int .i64 q13, .int .i64 q14, .int .i64 q15, .int .i64 q16, .int .i64 q17, .int .i64 q18, .int .i64 q19] 83 (0, 0)) :: (b1, .cells #[.int .i64 (0), .int .i64 (0), .int .i64 (0), .int .i64 (0), .int .i64 (0), .int .i64 (0), .int .i64 (0), .int .i64 (0), .int .i64 (0), .int .i64 (0), .int .i64 (0), .int .i64 (0), .int .i64 (0), .int .i64 (0), .int .i64 (0), .int .i64 (0), .int .i64 (0), .int .i64 (0), .int .i64 (0), .int .i64 (0), .int .i64 (0), .int .i64 (0), .int .i64 (0), .int .i64 (0), .int .i64 (0), .int .u64 (0)] 26 (0, 0)) :: M) (fun w h => h) ?_
      refine TC.drawG [15] ((b4, .cells #[.int .i64 q0, .int .i64 q1, .int .i64 q2, .int .i64 q3, .int .i64 q4, .int .i64 q5, .int .i64 q6, .int .i64 q7, .int .i64 q8, .int .i64 q9, .int .i64 q10, .int .i64 q11, .int .i64 q12, .int .i64 q13, .int .i64 q14, .int .i64 q15, .int .i64 q16, .int .i64 q17, .int .i64 q18, .int .i64 q19] 83 (0, 0)) :: (b1, .cells #[.int .i64 (0), .int .i64 (0), .int .i64 (0), .int .i64 (0), .int .i64 (0), .int .i64 (0), .int .i64 (0), .int .i64 (0), .int .i64 (0), .int .i64 (0), .int .i64 (0), .int .i64 (0), .int .i64 (0), .int .i64 (0), .int .i64 (0), .int .i64 (0), .int .i64 (0), .int .i64 (0), .int .i64 (0), .int .i64 (0), .int .i64 (0), .int .i64 (0), .int .i64 (0), .int .i64 (0), .int .i64 (0), .int .u64 (0)] 26 (0, 0)) :: M) mixed 16 ?_
      refine TG.tk false 0 1 rfl rfl rfl (Val.fieldAddr rfl fl26_1 sz3 rfl) ?_
      refine TG.tk false 1 3 rfl rfl rfl (Val.load 0 rfl ag3 rfl rfl) ?_
      refine TG.tk false 2 7 rfl rfl rfl (Val.mul rfl rfl (w_i64 (by omega) (by omega))) ?_
      refine TG.tk false 3 15 rfl rfl rfl (Val.add rfl rfl (w_i64 (by omega) (by omega))) ?_
      refine TG.tk false 4 31 rfl rfl rfl (Val.indexAddrA (i := 3) rfl rfl ar83 sz3 rfl (by first | decide | omega) rfl) ?_
      refine TG.tk false 5 63 rfl rfl rfl (Val.load 1 rfl ag3 rfl rfl) ?_
      refine TG.tk false 6 127 rfl rfl rfl (Val.fieldAddr rfl fl26_0 sz3 rfl) ?_
      refine TG.tk false 7 255 rfl rfl rfl (Val.load 0 rfl ag3 rfl rfl) ?_
      refine TG.tk false 8 511 rfl rfl rfl (Val.fieldAddr rfl fl26_1 sz3 rfl) ?_
      refine TG.tk false 9 1023 rfl rfl rfl (Val.load 0 rfl ag3 rfl rfl) ?_
      refine TG.tk false 10 2047 rfl rfl rfl (Val.mul rfl rfl (w_i64 (by omega) (by omega))) ?_
      refine TG.tk false 11 4095 rfl rfl rfl (Val.sub rfl rfl (w_i64 (by omega) (by omega))) ?_
      refine TG.tk false 12 8191 rfl rfl rfl (Val.rem rfl rfl (by first | decide | omega) (r := a3) ha3) ?_
      refine TG.tk false 13 16383 rfl rfl rfl (Val.add rfl rfl (w_i64 (by omega) (by omega))) ?_
      refine TG.tk false 14 32767 rfl rfl rfl (Val.fieldAddr rfl fl26_3 sz3 rfl) ?_
      refine TG.one 15 (by kernel_rfl) ?_
      refine TP.dz true 65535 none rfl rfl rfl rfl (Does.store (i := 0) rfl rfl rfl sz3 rfl rfl (by first | exact Nat.le_of_ble_eq_true rfl | decide | omega) rfl rfl) ?_
      rintro _ _ ⟨rfl, rfl⟩
      refine roK ?_
      refine TG.done (by kernel_rfl) ?_ _
      refine AtX.then ?_
      refine TC.env (E' := [(2, _), (3, _), (4, _)]) (Sub.cons rfl (Sub.cons rfl (Sub.cons rfl (Sub.nil _)))) ?_
      refine TC.seq ?_
      refine TC.heap (M' := (b3, .cells #[.int .i64 (3 * a0 + 1 + a1), .int .i64 (a0), .int .i64 (1 + a2), .int .i64 (2 * a0 + 1 + a3), .int .i64 (2), .int .i64 (2), .int .i64 (32), .int .i64 (1000), .int .i64 (0), .int .i64 (0), .int .i64 (0), .int .i64 (100), .int .i64 (1), .int .i64 (100), .int .i64 (0), .int .i64 (3), .int .i64 (4), .int .i64 (100), .int .i64 (4), .int .i64 (50), .int .i64 (2), .int .i64 (100), .int .i64 (3), .int .i64 (4), .int .i64 (256), .int .u64 (1)] 26 (0, 0)) :: (b4, .cells #[.int .i64 q0, .int .i64 q1, .int .i64 q2, .int .i64 q3, .int .i64 q4, .int .i64 q5, .int .i64 q6, .int .i64 q7, .int .i64 q8, .int .i64 q9, .int .i64 q10, .int .i64 q11, .int .i64 q12, .int .i64 q13, .int .i64 q14, .int .i64 q15, .int .i64 q16, .int .i64 q17, .int .i64 q18, .int .i64 q19] 83 (0, 0)) :: (b1, .cells #[.int .i64 (0), .int .i64 (0), .int .i64 (0), .int .i64 (0), .int .i64 (0), .int .i64 (0), .int .i64 (0), .int .i64 (0), .int .i64 (0), .int .i64 (0), .int .i64 (0), .int .i64 (0), .int .i64 (0), .int .i64 (0), .int .i64 (0), .int .i64 (0), .int .i64 (0), .int .i64 (0), .int .i64 (0), .int .i64 (0), .int .i64 (0), .int .i64 (0), .int .i64 (0), .int .i64 (0), .int .i64 (0), .int .u64 (0)] 26 (0, 0)) :: M) (fun w h => h) ?_
      refine TC.drawL ((b4, .cells #[.int .i64 q0, .int .i64 q1, .int .i64 q2, .int .i64 q3, .int .i64 q4, .int .i64 q5, .int .i64 q6, .int .i64 q7, .int .i64 q8, .int .i64 q9, .int .i64 q10, .int .i64 q11, .int .i64 q12, .int .i64 q13, .int .i64 q14, .int .i64 q15, .int .i64 q16, .int .i64 q17, .int .i64 q18, .int .i64 q19] 83 (0, 0)) :: (b1, .cells #[.int .i64 (0), .int .i64 (0), .int .i64 (0), .int .i64 (0), .int .i64 (0), .int .i64 (0), .int .i64 (0), .int .i64 (0), .int .i64 (0), .int .i64 (0), .int .i64 (0), .int .i64 (0), .int .i64 (0), .int .i64 (0), .int .i64 (0), .int .i64 (0), .int .i64 (0), .int .i64 (0), .int .i64 (0), .int .i64 (0), .int .i64 (0), .int .i64 (0), .int .i64 (0), .int .i64 (0), .int .i64 (0), .int .u64 (0)] 26 (0, 0)) :: M) mixed 18 ?_
      refine TA.tk 0 1 rfl rfl rfl (Val.indexAddrA (i := 4) rfl rfl ar83 sz3 rfl (by first | decide | omega) rfl) ?_
      refine TA.tk 1 3 rfl rfl rfl (Val.load 0 rfl ag3 rfl rfl) ?_
      refine TA.tk 2 7 rfl rfl rfl (Val.rem rfl rfl (by first | decide | omega) (r := a4) ha4) ?_
      refine TA.tk 3 15 rfl rfl rfl (Val.add rfl rfl (w_i64 (by omega) (by omega))) ?_
      refine TA.tk 4 31 rfl rfl rfl (Val.indexAddrA (i := 5) rfl rfl ar83 sz3 rfl (by first | decide | omega) rfl) ?_
      refine TA.tk 5 63 rfl rfl rfl (Val.load 0 rfl ag3 rfl rfl) ?_
      refine TA.tk 6 127 rfl rfl rfl (Val.rem rfl rfl (by first | decide | omega) (r := a5) ha5) ?_
      refine TA.tk 7 255 rfl rfl rfl (Val.add rfl rfl (w_i64 (by omega) (by omega))) ?_
      refine TA.tk 8 511 rfl rfl rfl (Val.indexAddrA (i := 6) rfl rfl ar83 sz3 rfl (by first | decide | omega) rfl) ?_
      refine TA.tk 9 1023 rfl rfl rfl (Val.load 0 rfl ag3 rfl rfl) ?_
      refine TA.tk 10 2047 rfl rfl rfl (Val.rem rfl rfl (by first | decide | omega) (r := a6) ha6) ?_
      refine TA.tk 11 4095 rfl rfl rfl (Val.add rfl rfl (w_i64 (by omega) (by omega))) ?_
      refine TA.tk 12 8191 rfl rfl rfl (Val.fieldAddr rfl fl26_4 sz3 rfl) ?_
      refine TA.one 13 (by kernel_rfl) ?_
      refine TO.dz 16383 none rfl rfl rfl rfl (Does.store (i := 0) rfl rfl rfl sz3 rfl rfl (by first | exact Nat.le_of_ble_eq_true rfl | decide | omega) rfl rfl) ?_
      rintro _ _ ⟨rfl, rfl⟩
      refine roK ?_
      refine TA.tk 14 32767 rfl rfl rfl (Val.fieldAddr rfl fl26_5 sz3 rfl) ?_
      refine TA.one 15 (by kernel_rfl) ?_
      refine TO.dz 65535 none rfl rfl rfl rfl (Does.store (i := 0) rfl rfl rfl sz3 rfl rfl (by first | exact Nat.le_of_ble_eq_true rfl | decide | omega) rfl rfl) ?_
      rintro _ _ ⟨rfl, rfl⟩
      refine roK ?_
      refine TA.tk 16 131071 rfl rfl rfl (Val.fieldAddr rfl fl26_6 sz3 rfl) ?_
      refine TA.one 17 (by kernel_rfl) ?_
      refine TO.dz 262143 none rfl rfl rfl rfl (Does.store (i := 0) rfl rfl rfl sz3 rfl rfl (by first | exact Nat.le_of_ble_eq_true rfl | decide | omega) rfl rfl) ?_
      rintro _ _ ⟨rfl, rfl⟩
      refine roK ?_
      refine TA.done (by kernel_rfl) ?_
      refine AtX.then ?_
      refine TC.env (E' := [(2, _), (3, _), (4, _)]) (Sub.cons rfl (Sub.cons rfl (Sub.cons rfl (Sub.nil _)))) ?_
      refine TC.seq ?_
      refine TC.heap (M' := (b3, .cells #[.int .i64 (3 * a0 + 1 + a1), .int .i64 (a0), .int .i64 (1 + a2), .int .i64 (2 * a0 + 1 + a3), .int .i64 (1 + a4), .int .i64 (1 + a5), .int .i64 (1 + a6), .int .i64 (1000), .int .i64 (0), .int .i64 (0), .int .i64 (0), .int .i64 (100), .int .i64 (1), .int .i64 (100), .int .i64 (0), .int .i64 (3), .int .i64 (4), .int .i64 (100), .int .i64 (4), .int .i64 (50), .int .i64 (2), .int .i64 (100), .int .i64 (3), .int .i64 (4), .int .i64 (256), .int .u64 (1)] 26 (0, 0)) :: (b4, .cells #[.int .i64 q0, .int .i64 q1, .int .i64 q2, .int .i64 q3, .int .i64 q4, .int .i64 q5, .int .i64 q6, .int .i64 q7, .int .i64 q8, .int .i64 q9, .int .i64 q10, .int .i64 q11, .int .i64 q12, .int .i64 q13, .int .i64 q14, .int .i64 q15, .int .i64 q16, .int .i64 q17, .int .i64 q18, .int .i64 q19] 83 (0, 0)) :: (b1, .cells #[.int .i64 (0), .int .i64 (0), .int .i64 (0), .int .i64 (0), .int .i64 (0), .int .i64 (0), .int .i64 (0), .int .i64 (0), .int .i64 (0), .int .i64 (0), .int .i64 (0), .int .i64 (0), .int .i64 (0), .int .i64 (0), .int .i64 (0), .int .i64 (0), .int .i64 (0), .int .i64 (0), .int .i64 (0), .int .i64 (0), .int .i64 (0), .int .i64 (0), .int .i64 (0), .int .i64 (0), .int .i64 (0), .int .u64 (0)] 26 (0, 0)) :: M) (fun w h => h) ?_
      refine TC.region ?_
      refine TL.val rfl rfl (Nat.le_of_ble_eq_true rfl) (Val.fieldAddr rfl fl26_7 sz23 rfl) ?_
      refine TL.val rfl rfl (Nat.le_of_ble_eq_true rfl) (Val.indexAddrA (i := 1) rfl rfl ar23 sz2 rfl (by first | decide | omega) rfl) ?_
      refine TL.does none rfl rfl rfl (Does.store (i := 0) rfl rfl rfl sz2 rfl rfl (by first | exact Nat.le_of_ble_eq_true rfl | decide | omega) rfl rfl) ?_
      rintro _ _ ⟨rfl, rfl⟩
      refine TL.nil ?_
      refine AtX.then ?_
      refine TC.env (E' := [(2, _), (3, _), (4, _)]) (Sub.cons rfl (Sub.cons rfl (Sub.cons rfl (Sub.nil _)))) ?_
      refine TC.seq ?_
      refine TC.seq ?_
      refine TC.region ?_
      refine TL.val rfl rfl (Nat.le_of_ble_eq_true rfl) (Val.assign rfl) ?_
      refine TL.nil ?_
      refine AtX.then ?_
      refine TC.env (E' := [(2, _), (3, _), (4, _), (6, _)]) (Sub.cons rfl (Sub.cons rfl (Sub.cons rfl (Sub.cons rfl (Sub.nil _))))) ?_
      refine TC.block ?_
      refine TC.loop (ι := Nat) (fun i => [(2, .pointer (some ⟨b1, 0, none⟩)), (3, .pointer (some ⟨b3, 0, none⟩)), (4, .pointer (some ⟨b4, 0, none⟩)), (6, .int .i64 (i : Nat))]) (fun i => (b3, .cells #[.int .i64 (3 * a0 + 1 + a1), .int .i64 (a0), .int .i64 (1 + a2), .int .i64 (2 * a0 + 1 + a3), .int .i64 (1 + a4), .int .i64 (1 + a5), .int .i64 (1 + a6), .int .i64 (if 0 < i then 1 + a7 else 1000), .int .i64 (if 1 < i then 1 + a8 else 0), .int .i64 (0), .int .i64 (0), .int .i64 (100), .int .i64 (1), .int .i64 (100), .int .i64 (0), .int .i64 (3), .int .i64 (4), .int .i64 (100), .int .i64 (4), .int .i64 (50), .int .i64 (2), .int .i64 (100), .int .i64 (3), .int .i64 (4), .int .i64 (256), .int .u64 (1)] 26 (0, 0)) :: (b4, .cells #[.int .i64 q0, .int .i64 q1, .int .i64 q2, .int .i64 q3, .int .i64 q4, .int .i64 q5, .int .i64 q6, .int .i64 q7, .int .i64 q8, .int .i64 q9, .int .i64 q10, .int .i64 q11, .int .i64 q12, .int .i64 q13, .int .i64 q14, .int .i64 q15, .int .i64 q16, .int .i64 q17, .int .i64 q18, .int .i64 q19] 83 (0, 0)) :: (b1, .cells #[.int .i64 (0), .int .i64 (0), .int .i64 (0), .int .i64 (0), .int .i64 (0), .int .i64 (0), .int .i64 (0), .int .i64 (0), .int .i64 (0), .int .i64 (0), .int .i64 (0), .int .i64 (0), .int .i64 (0), .int .i64 (0), .int .i64 (0), .int .i64 (0), .int .i64 (0), .int .i64 (0), .int .i64 (0), .int .i64 (0), .int .i64 (0), .int .i64 (0), .int .i64 (0), .int .i64 (0), .int .i64 (0), .int .u64 (0)] 26 (0, 0)) :: M) (fun i => (i : Int) ≤ 1 + a2) (fun i => 2 - i) 0 ?_ (Sub.cons rfl (Sub.cons rfl (Sub.cons rfl (Sub.cons rfl (Sub.nil _))))) (fun _ h => h) ?_
      · show ((0 : Nat) : Int) ≤ 1 + a2; omega
      intro i hi
      refine TC.seq ?_
      refine TC.seq ?_
      refine TC.region ?_
      refine TL.val rfl rfl (Nat.le_of_ble_eq_true rfl) (Val.move rfl) ?_
      refine TL.val rfl rfl (Nat.le_of_ble_eq_true rfl) (Val.fieldAddr rfl fl26_2 sz3 rfl) ?_
      refine TL.val rfl rfl (Nat.le_of_ble_eq_true rfl) (Val.load 0 rfl ag3 rfl rfl) ?_
      refine TL.val rfl rfl (Nat.le_of_ble_eq_true rfl) (Val.lss rfl rfl) ?_
      refine TL.nil ?_
      refine AtX.then ?_
      first | refine TC.condP rfl (fun c3 => ?_) (fun c3 => ?_) | refine TC.condN rfl (fun c3 => ?_) (fun c3 => ?_) | refine TC.condB rfl (fun c3 => ?_) (fun c3 => ?_) | refine TC.cond rfl (fun c3 => ?_) (fun c3 => ?_)
      · skip
        refine TC.skip ?_
        refine AtX.then ?_
        refine TC.seq ?_
        refine TC.block ?_
        have hi01 : i = 0 ∨ i = 1 := by omega
        refine TC.region ?_
        refine TL.val rfl rfl (Nat.le_of_ble_eq_true rfl) (Val.move rfl) ?_
        refine TL.val rfl rfl (Nat.le_of_ble_eq_true rfl) (Val.move rfl) ?_
        refine TL.val rfl rfl (Nat.le_of_ble_eq_true rfl) (Val.add rfl rfl (r := ((7 + i : Nat) : Int)) (by rw [w_i64 (by omega) (by omega)]; push_cast; rfl)) ?_
        refine TL.val rfl rfl (Nat.le_of_ble_eq_true rfl) (Val.indexAddrA (i := 7 + i) (r := 7 + i) rfl rfl ar83 sz3 rfl (by omega) (by omega)) ?_
        refine TL.val rfl rfl (Nat.le_of_ble_eq_true rfl) (Val.load 1 rfl ag3 rfl (v := .int .i64 (if i = 0 then q7 else q8)) (by rcases hi01 with rfl | rfl <;> rfl)) ?_
        refine TL.val rfl rfl (Nat.le_of_ble_eq_true rfl) (Val.rem rfl rfl (by decide) (r := if i = 0 then a7 else a8) (by rcases hi01 with rfl | rfl <;> assumption)) ?_
        refine TL.val rfl rfl (Nat.le_of_ble_eq_true rfl) (Val.add rfl rfl (r := 1 + (if i = 0 then a7 else a8)) (w_i64 (by split <;> omega) (by split <;> omega))) ?_
        refine TL.val rfl rfl (Nat.le_of_ble_eq_true rfl) (Val.fieldAddr rfl fl26_7 sz23 rfl) ?_
        refine TL.val rfl rfl (Nat.le_of_ble_eq_true rfl) (Val.indexAddrA (i := i) (r := 7 + i) rfl rfl ar23 sz2 rfl (by omega) (by omega)) ?_
        refine TL.does none rfl rfl rfl (Does.store (i := 0) (cs' := #[.int .i64 (3 * a0 + 1 + a1), .int .i64 (a0), .int .i64 (1 + a2), .int .i64 (2 * a0 + 1 + a3), .int .i64 (1 + a4), .int .i64 (1 + a5), .int .i64 (1 + a6), .int .i64 (if 0 < i + 1 then 1 + a7 else 1000), .int .i64 (if 1 < i + 1 then 1 + a8 else 0), .int .i64 (0), .int .i64 (0), .int .i64 (100), .int .i64 (1), .int .i64 (100), .int .i64 (0), .int .i64 (3), .int .i64 (4), .int .i64 (100), .int .i64 (4), .int .i64 (50), .int .i64 (2), .int .i64 (100), .int .i64 (3), .int .i64 (4), .int .i64 (256), .int .u64 (1)]) (M' := (b3, .cells #[.int .i64 (3 * a0 + 1 + a1), .int .i64 (a0), .int .i64 (1 + a2), .int .i64 (2 * a0 + 1 + a3), .int .i64 (1 + a4), .int .i64 (1 + a5), .int .i64 (1 + a6), .int .i64 (if 0 < i + 1 then 1 + a7 else 1000), .int .i64 (if 1 < i + 1 then 1 + a8 else 0), .int .i64 (0), .int .i64 (0), .int .i64 (100), .int .i64 (1), .int .i64 (100), .int .i64 (0), .int .i64 (3), .int .i64 (4), .int .i64 (100), .int .i64 (4), .int .i64 (50), .int .i64 (2), .int .i64 (100), .int .i64 (3), .int .i64 (4), .int .i64 (256), .int .u64 (1)] 26 (0, 0)) :: (b4, .cells #[.int .i64 q0, .int .i64 q1, .int .i64 q2, .int .i64 q3, .int .i64 q4, .int .i64 q5, .int .i64 q6, .int .i64 q7, .int .i64 q8, .int .i64 q9, .int .i64 q10, .int .i64 q11, .int .i64 q12, .int .i64 q13, .int .i64 q14, .int .i64 q15, .int .i64 q16, .int .i64 q17, .int .i64 q18, .int .i64 q19] 83 (0, 0)) :: (b1, .cells #[.int .i64 (0), .int .i64 (0), .int .i64 (0), .int .i64 (0), .int .i64 (0), .int .i64 (0), .int .i64 (0), .int .i64 (0), .int .i64 (0), .int .i64 (0), .int .i64 (0), .int .i64 (0), .int .i64 (0), .int .i64 (0), .int .i64 (0), .int .i64 (0), .int .i64 (0), .int .i64 (0), .int .i64 (0), .int .i64 (0), .int .i64 (0), .int .i64 (0), .int .i64 (0), .int .i64 (0), .int .i64 (0), .int .u64 (0)] 26 (0, 0)) :: M) rfl rfl rfl sz2 rfl rfl (by show 7 + i + 1 ≤ 26; omega) (by rcases hi01 with rfl | rfl <;> rfl) rfl) ?_
        rintro _ _ ⟨rfl, rfl⟩
        refine TL.nil ?_
        refine AtX.blk ?_
        refine AtX.then ?_
        refine TC.region ?_
        refine TL.val rfl rfl (Nat.le_of_ble_eq_true rfl) (Val.move rfl) ?_
        refine TL.val rfl rfl (Nat.le_of_ble_eq_true rfl) (Val.add rfl rfl (w_i64 (by omega) (by omega))) ?_
        refine TL.val rfl rfl (Nat.le_of_ble_eq_true rfl) (Val.assign rfl) ?_
        refine TL.nil ?_
        refine AtX.round (i + 1) ?_ ?_ (Sub.cons rfl (Sub.cons rfl (Sub.cons rfl (Sub.cons rfl (Sub.nil _))))) (fun _ h => h)
        · show ((i + 1 : Nat) : Int) ≤ 1 + a2; omega
        · omega
      · skip
        refine TC.exit ?_
        refine AtX.seqX ?_
        refine AtX.seqX ?_
        refine AtX.hit ?_
        refine AtX.then ?_
        refine TC.env (E' := [(2, _), (3, _), (4, _)]) (Sub.cons rfl (Sub.cons rfl (Sub.cons rfl (Sub.nil _)))) ?_
        refine TC.seq ?_
        obtain ⟨T0, hT0⟩ : ∃ T0 : Int, T0 = if 0 < i then 1 + a7 else 1000 := ⟨_, rfl⟩
        obtain ⟨T1, hT1⟩ : ∃ T1 : Int, T1 = if 1 < i then 1 + a8 else 0 := ⟨_, rfl⟩
        rw [← hT0, ← hT1]
        have hT0b : 1 ≤ T0 ∧ T0 ≤ 2000 := by rw [hT0]; split <;> omega
        have hT1b : (1 < 1 + a2 → 1 ≤ T1 ∧ T1 ≤ 2000) ∧ (1 + a2 ≤ 1 → T1 = 0) := by rw [hT1]; split <;> omega
        refine TC.region ?_
        refine TL.val rfl rfl (Nat.le_of_ble_eq_true rfl) (Val.indexAddrA (i := 9) rfl rfl ar83 sz3 rfl (by first | decide | omega) rfl) ?_
        refine TL.val rfl rfl (Nat.le_of_ble_eq_true rfl) (Val.load 1 rfl ag3 rfl rfl) ?_
        refine TL.val rfl rfl (Nat.le_of_ble_eq_true rfl) (Val.rem rfl rfl (by first | decide | omega) (r := a9) ha9) ?_
        refine TL.val rfl rfl (Nat.le_of_ble_eq_true rfl) (Val.fieldAddr rfl fl26_8 sz3 rfl) ?_
        refine TL.does none rfl rfl rfl (Does.store (i := 0) rfl rfl rfl sz3 rfl rfl (by first | exact Nat.le_of_ble_eq_true rfl | decide | omega) rfl rfl) ?_
        rintro _ _ ⟨rfl, rfl⟩
        refine TL.nil ?_
        refine AtX.then ?_
        refine TC.env (E' := [(2, _), (3, _), (4, _)]) (Sub.cons rfl (Sub.cons rfl (Sub.cons rfl (Sub.nil _)))) ?_
        refine TC.seq ?_
        refine TC.heap (M' := (b3, .cells #[.int .i64 (3 * a0 + 1 + a1), .int .i64 (a0), .int .i64 (1 + a2), .int .i64 (2 * a0 + 1 + a3), .int .i64 (1 + a4), .int .i64 (1 + a5), .int .i64 (1 + a6), .int .i64 (T0), .int .i64 (T1), .int .i64 (0), .int .i64 (0), .int .i64 (a9), .int .i64 (1), .int .i64 (100), .int .i64 (0), .int .i64 (3), .int .i64 (4), .int .i64 (100), .int .i64 (4), .int .i64 (50), .int .i64 (2), .int .i64 (100), .int .i64 (3), .int .i64 (4), .int .i64 (256), .int .u64 (1)] 26 (0, 0)) :: (b4, .cells #[.int .i64 q0, .int .i64 q1, .int .i64 q2, .int .i64 q3, .int .i64 q4, .int .i64 q5, .int .i64 q6, .int .i64 q7, .int .i64 q8, .int .i64 q9, .int .i64 q10, .int .i64 q11, .int .i64 q12, .int .i64 q13, .int .i64 q14, .int .i64 q15, .int .i64 q16, .int .i64 q17, .int .i64 q18, .int .i64 q19] 83 (0, 0)) :: (b1, .cells #[.int .i64 (0), .int .i64 (0), .int .i64 (0), .int .i64 (0), .int .i64 (0), .int .i64 (0), .int .i64 (0), .int .i64 (0), .int .i64 (0), .int .i64 (0), .int .i64 (0), .int .i64 (0), .int .i64 (0), .int .i64 (0), .int .i64 (0), .int .i64 (0), .int .i64 (0), .int .i64 (0), .int .i64 (0), .int .i64 (0), .int .i64 (0), .int .i64 (0), .int .i64 (0), .int .i64 (0), .int .i64 (0), .int .u64 (0)] 26 (0, 0)) :: M) (fun w h => h) ?_
        refine TC.region ?_
        refine TL.val rfl rfl (Nat.le_of_ble_eq_true rfl) (Val.indexAddrA (i := 10) rfl rfl ar83 sz3 rfl (by first | decide | omega) rfl) ?_
        refine TL.val rfl rfl (Nat.le_of_ble_eq_true rfl) (Val.load 1 rfl ag3 rfl rfl) ?_
        refine TL.val rfl rfl (Nat.le_of_ble_eq_true rfl) (Val.rem rfl rfl (by first | decide | omega) (r := a10) ha10) ?_
        refine TL.val rfl rfl (Nat.le_of_ble_eq_true rfl) (Val.add rfl rfl (w_i64 (by omega) (by omega))) ?_
        refine TL.val rfl rfl (Nat.le_of_ble_eq_true rfl) (Val.fieldAddr rfl fl26_9 sz3 rfl) ?_
        refine TL.does none rfl rfl rfl (Does.store (i := 0) rfl rfl rfl sz3 rfl rfl (by first | exact Nat.le_of_ble_eq_true rfl | decide | omega) rfl rfl) ?_
        rintro _ _ ⟨rfl, rfl⟩
        refine TL.nil ?_
        refine AtX.then ?_
        refine TC.env (E' := [(2, _), (3, _), (4, _)]) (Sub.cons rfl (Sub.cons rfl (Sub.cons rfl (Sub.nil _)))) ?_
        refine TC.seq ?_
        refine TC.heap (M' := (b3, .cells #[.int .i64 (3 * a0 + 1 + a1), .int .i64 (a0), .int .i64 (1 + a2), .int .i64 (2 * a0 + 1 + a3), .int .i64 (1 + a4), .int .i64 (1 + a5), .int .i64 (1 + a6), .int .i64 (T0), .int .i64 (T1), .int .i64 (0), .int .i64 (0), .int .i64 (a9), .int .i64 (1 + a10), .int .i64 (100), .int .i64 (0), .int .i64 (3), .int .i64 (4), .int .i64 (100), .int .i64 (4), .int .i64 (50), .int .i64 (2), .int .i64 (100), .int .i64 (3), .int .i64 (4), .int .i64 (256), .int .u64 (1)] 26 (0, 0)) :: (b4, .cells #[.int .i64 q0, .int .i64 q1, .int .i64 q2, .int .i64 q3, .int .i64 q4, .int .i64 q5, .int .i64 q6, .int .i64 q7, .int .i64 q8, .int .i64 q9, .int .i64 q10, .int .i64 q11, .int .i64 q12, .int .i64 q13, .int .i64 q14, .int .i64 q15, .int .i64 q16, .int .i64 q17, .int .i64 q18, .int .i64 q19] 83 (0, 0)) :: (b1, .cells #[.int .i64 (0), .int .i64 (0), .int .i64 (0), .int .i64 (0), .int .i64 (0), .int .i64 (0), .int .i64 (0), .int .i64 (0), .int .i64 (0), .int .i64 (0), .int .i64 (0), .int .i64 (0), .int .i64 (0), .int .i64 (0), .int .i64 (0), .int .i64 (0), .int .i64 (0), .int .i64 (0), .int .i64 (0), .int .i64 (0), .int .i64 (0), .int .i64 (0), .int .i64 (0), .int .i64 (0), .int .i64 (0), .int .u64 (0)] 26 (0, 0)) :: M) (fun w h => h) ?_
        refine TC.region ?_
        refine TL.val rfl rfl (Nat.le_of_ble_eq_true rfl) (Val.fieldAddr rfl fl26_9 sz3 rfl) ?_
        refine TL.val rfl rfl (Nat.le_of_ble_eq_true rfl) (Val.load 0 rfl ag3 rfl rfl) ?_
        refine TL.val rfl rfl (Nat.le_of_ble_eq_true rfl) (Val.indexAddrA (i := 10) rfl rfl ar83 sz3 rfl (by first | decide | omega) rfl) ?_
        refine TL.val rfl rfl (Nat.le_of_ble_eq_true rfl) (Val.load 1 rfl ag3 rfl rfl) ?_
        refine TL.val rfl rfl (Nat.le_of_ble_eq_true rfl) (Val.quo rfl rfl (by decide) (r := b10) (by rw [hb10]; exact w_i64 (by omega) (by omega))) ?_
        refine TL.val rfl rfl (Nat.le_of_ble_eq_true rfl) (Val.rem rfl rfl (by first | decide | omega) (r := c10) hc10) ?_
        refine TL.val rfl rfl (Nat.le_of_ble_eq_true rfl) (Val.add rfl rfl (w_i64 (by omega) (by omega))) ?_
        refine TL.val rfl rfl (Nat.le_of_ble_eq_true rfl) (Val.fieldAddr rfl fl26_10 sz3 rfl) ?_
        refine TL.does none rfl rfl rfl (Does.store (i := 0) rfl rfl rfl sz3 rfl rfl (by first | exact Nat.le_of_ble_eq_true rfl | decide | omega) rfl rfl) ?_
        rintro _ _ ⟨rfl, rfl⟩
        refine TL.nil ?_
        refine AtX.then ?_
        refine TC.env (E' := [(2, _), (3, _), (4, _)]) (Sub.cons rfl (Sub.cons rfl (Sub.cons rfl (Sub.nil _)))) ?_
        refine TC.seq ?_
        refine TC.heap (M' := (b3, .cells #[.int .i64 (3 * a0 + 1 + a1), .int .i64 (a0), .int .i64 (1 + a2), .int .i64 (2 * a0 + 1 + a3), .int .i64 (1 + a4), .int .i64 (1 + a5), .int .i64 (1 + a6), .int .i64 (T0), .int .i64 (T1), .int .i64 (0), .int .i64 (0), .int .i64 (a9), .int .i64 (1 + a10), .int .i64 (1 + a10 + c10), .int .i64 (0), .int .i64 (3), .int .i64 (4), .int .i64 (100), .int .i64 (4), .int .i64 (50), .int .i64 (2), .int .i64 (100), .int .i64 (3), .int .i64 (4), .int .i64 (256), .int .u64 (1)] 26 (0, 0)) :: (b4, .cells #[.int .i64 q0, .int .i64 q1, .int .i64 q2, .int .i64 q3, .int .i64 q4, .int .i64 q5, .int .i64 q6, .int .i64 q7, .int .i64 q8, .int .i64 q9, .int .i64 q10, .int .i64 q11, .int .i64 q12, .int .i64 q13, .int .i64 q14, .int .i64 q15, .int .i64 q16, .int .i64 q17, .int .i64 q18, .int .i64 q19] 83 (0, 0)) :: (b1, .cells #[.int .i64 (0), .int .i64 (0), .int .i64 (0), .int .i64 (0), .int .i64 (0), .int .i64 (0), .int .i64 (0), .int .i64 (0), .int .i64 (0), .int .i64 (0), .int .i64 (0), .int .i64 (0), .int .i64 (0), .int .i64 (0), .int .i64 (0), .int .i64 (0), .int .i64 (0), .int .i64 (0), .int .i64 (0), .int .i64 (0), .int .i64 (0), .int .i64 (0), .int .i64 (0), .int .i64 (0), .int .i64 (0), .int .u64 (0)] 26 (0, 0)) :: M) (fun w h => h) ?_
        refine TC.drawL ((b4, .cells #[.int .i64 q0, .int .i64 q1, .int .i64 q2, .int .i64 q3, .int .i64 q4, .int .i64 q5, .int .i64 q6, .int .i64 q7, .int .i64 q8, .int .i64 q9, .int .i64 q10, .int .i64 q11, .int .i64 q12, .int .i64 q13, .int .i64 q14, .int .i64 q15, .int .i64 q16, .int .i64 q17, .int .i64 q18, .int .i64 q19] 83 (0, 0)) :: (b1, .cells #[.int .i64 (0), .int .i64 (0), .int .i64 (0), .int .i64 (0), .int .i64 (0), .int .i64 (0), .int .i64 (0), .int .i64 (0), .int .i64 (0), .int .i64 (0), .int .i64 (0), .int .i64 (0), .int .i64 (0), .int .i64 (0), .int .i64 (0), .int .i64 (0), .int .i64 (0), .int .i64 (0), .int .i64 (0), .int .i64 (0), .int .i64 (0), .int .i64 (0), .int .i64 (0), .int .i64 (0), .int .i64 (0), .int .u64 (0)] 26 (0, 0)) :: M) mixed 10 ?_
        refine TA.tk 0 1 rfl rfl rfl (Val.indexAddrA (i := 11) rfl rfl ar83 sz3 rfl (by first | decide | omega) rfl) ?_
        refine TA.tk 1 3 rfl rfl rfl (Val.load 0 rfl ag3 rfl rfl) ?_
        refine TA.tk 2 7 rfl rfl rfl (Val.rem rfl rfl (by first | decide | omega) (r := a11) ha11) ?_
        refine TA.tk 3 15 rfl rfl rfl (Val.indexAddrA (i := 12) rfl rfl ar83 sz3 rfl (by first | decide | omega) rfl) ?_
        refine TA.tk 4 31 rfl rfl rfl (Val.load 0 rfl ag3 rfl rfl) ?_
        refine TA.tk 5 63 rfl rfl rfl (Val.rem rfl rfl (by first | decide | omega) (r := a12) ha12) ?_
        refine TA.tk 6 127 rfl rfl rfl (Val.fieldAddr rfl fl26_11 sz3 rfl) ?_
        refine TA.one 7 (by kernel_rfl) ?_
        refine TO.dz 255 none rfl rfl rfl rfl (Does.store (i := 0) rfl rfl rfl sz3 rfl rfl (by first | exact Nat.le_of_ble_eq_true rfl | decide | omega) rfl rfl) ?_
        rintro _ _ ⟨rfl, rfl⟩
        refine roK ?_
        refine TA.tk 8 511 rfl rfl rfl (Val.fieldAddr rfl fl26_12 sz3 rfl) ?_
        refine TA.one 9 (by kernel_rfl) ?_
        refine TO.dz 1023 none rfl rfl rfl rfl (Does.store (i := 0) rfl rfl rfl sz3 rfl rfl (by first | exact Nat.le_of_ble_eq_true rfl | decide | omega) rfl rfl) ?_
        rintro _ _ ⟨rfl, rfl⟩
        refine roK ?_
        refine TA.done (by kernel_rfl) ?_
        refine AtX.then ?_
        refine TC.env (E' := [(2, _), (3, _), (4, _)]) (Sub.cons rfl (Sub.cons rfl (Sub.cons rfl (Sub.nil _)))) ?_
        refine TC.seq ?_
        refine TC.heap (M' := (b3, .cells #[.int .i64 (3 * a0 + 1 + a1), .int .i64 (a0), .int .i64 (1 + a2), .int .i64 (2 * a0 + 1 + a3), .int .i64 (1 + a4), .int .i64 (1 + a5), .int .i64 (1 + a6), .int .i64 (T0), .int .i64 (T1), .int .i64 (0), .int .i64 (0), .int .i64 (a9), .int .i64 (1 + a10), .int .i64 (1 + a10 + c10), .int .i64 (a11), .int .i64 (a12), .int .i64 (4), .int .i64 (100), .int .i64 (4), .int .i64 (50), .int .i64 (2), .int .i64 (100), .int .i64 (3), .int .i64 (4), .int .i64 (256), .int .u64 (1)] 26 (0, 0)) :: (b4, .cells #[.int .i64 q0, .int .i64 q1, .int .i64 q2, .int .i64 q3, .int .i64 q4, .int .i64 q5, .int .i64 q6, .int .i64 q7, .int .i64 q8, .int .i64 q9, .int .i64 q10, .int .i64 q11, .int .i64 q12, .int .i64 q13, .int .i64 q14, .int .i64 q15, .int .i64 q16, .int .i64 q17, .int .i64 q18, .int .i64 q19] 83 (0, 0)) :: (b1, .cells #[.int .i64 (0), .int .i64 (0), .int .i64 (0), .int .i64 (0), .int .i64 (0), .int .i64 (0), .int .i64 (0), .int .i64 (0), .int .i64 (0), .int .i64 (0), .int .i64 (0), .int .i64 (0), .int .i64 (0), .int .i64 (0), .int .i64 (0), .int .i64 (0), .int .i64 (0), .int .i64 (0), .int .i64 (0), .int .i64 (0), .int .i64 (0), .int .i64 (0), .int .i64 (0), .int .i64 (0), .int .i64 (0), .int .u64 (0)] 26 (0, 0)) :: M) (fun w h => h) ?_
        refine TC.drawL ((b4, .cells #[.int .i64 q0, .int .i64 q1, .int .i64 q2, .int .i64 q3, .int .i64 q4, .int .i64 q5, .int .i64 q6, .int .i64 q7, .int .i64 q8, .int .i64 q9, .int .i64 q10, .int .i64 q11, .int .i64 q12, .int .i64 q13, .int .i64 q14, .int .i64 q15, .int .i64 q16, .int .i64 q17, .int .i64 q18, .int .i64 q19] 83 (0, 0)) :: (b1, .cells #[.int .i64 (0), .int .i64 (0), .int .i64 (0), .int .i64 (0), .int .i64 (0), .int .i64 (0), .int .i64 (0), .int .i64 (0), .int .i64 (0), .int .i64 (0), .int .i64 (0), .int .i64 (0), .int .i64 (0), .int .i64 (0), .int .i64 (0), .int .i64 (0), .int .i64 (0), .int .i64 (0), .int .i64 (0), .int .i64 (0), .int .i64 (0), .int .i64 (0), .int .i64 (0), .int .i64 (0), .int .i64 (0), .int .u64 (0)] 26 (0, 0)) :: M) mixed 13 ?_
        refine TA.tk 0 1 rfl rfl rfl (Val.indexAddrA (i := 13) rfl rfl ar83 sz3 rfl (by first | decide | omega) rfl) ?_
        refine TA.tk 1 3 rfl rfl rfl (Val.load 0 rfl ag3 rfl rfl) ?_
        refine TA.tk 2 7 rfl rfl rfl (Val.rem rfl rfl (by first | decide | omega) (r := a13) ha13) ?_
        refine TA.tk 3 15 rfl rfl rfl (Val.add rfl rfl (w_i64 (by omega) (by omega))) ?_
        refine TA.tk 4 31 rfl rfl rfl (Val.indexAddrA (i := 13) rfl rfl ar83 sz3 rfl (by first | decide | omega) rfl) ?_
        refine TA.tk 5 63 rfl rfl rfl (Val.load 0 rfl ag3 rfl rfl) ?_
        refine TA.tk 6 127 rfl rfl rfl (Val.quo rfl rfl (by decide) (r := b13) (by rw [hb13]; exact w_i64 (by omega) (by omega))) ?_
        refine TA.tk 7 255 rfl rfl rfl (Val.rem rfl rfl (by first | decide | omega) (r := c13) hc13) ?_
        refine TA.tk 8 511 rfl rfl rfl (Val.add rfl rfl (w_i64 (by omega) (by omega))) ?_
        refine TA.tk 9 1023 rfl rfl rfl (Val.fieldAddr rfl fl26_13 sz3 rfl) ?_
        refine TA.one 10 (by kernel_rfl) ?_
        refine TO.dz 2047 none rfl rfl rfl rfl (Does.store (i := 0) rfl rfl rfl sz3 rfl rfl (by first | exact Nat.le_of_ble_eq_true rfl | decide | omega) rfl rfl) ?_
        rintro _ _ ⟨rfl, rfl⟩
        refine roK ?_
        refine TA.tk 11 4095 rfl rfl rfl (Val.fieldAddr rfl fl26_14 sz3 rfl) ?_
        refine TA.one 12 (by kernel_rfl) ?_
        refine TO.dz 8191 none rfl rfl rfl rfl (Does.store (i := 0) rfl rfl rfl sz3 rfl rfl (by first | exact Nat.le_of_ble_eq_true rfl | decide | omega) rfl rfl) ?_
        rintro _ _ ⟨rfl, rfl⟩
        refine roK ?_
        refine TA.done (by kernel_rfl) ?_
        refine AtX.then ?_
        refine TC.env (E' := [(2, _), (3, _), (4, _)]) (Sub.cons rfl (Sub.cons rfl (Sub.cons rfl (Sub.nil _)))) ?_
        refine TC.seq ?_
        refine TC.heap (M' := (b3, .cells #[.int .i64 (3 * a0 + 1 + a1), .int .i64 (a0), .int .i64 (1 + a2), .int .i64 (2 * a0 + 1 + a3), .int .i64 (1 + a4), .int .i64 (1 + a5), .int .i64 (1 + a6), .int .i64 (T0), .int .i64 (T1), .int .i64 (0), .int .i64 (0), .int .i64 (a9), .int .i64 (1 + a10), .int .i64 (1 + a10 + c10), .int .i64 (a11), .int .i64 (a12), .int .i64 (1 + a13), .int .i64 (1 + c13), .int .i64 (4), .int .i64 (50), .int .i64 (2), .int .i64 (100), .int .i64 (3), .int .i64 (4), .int .i64 (256), .int .u64 (1)] 26 (0, 0)) :: (b4, .cells #[.int .i64 q0, .int .i64 q1, .int .i64 q2, .int .i64 q3, .int .i64 q4, .int .i64 q5, .int .i64 q6, .int .i64 q7, .int .i64 q8, .int .i64 q9, .int .i64 q10, .int .i64 q11, .int .i64 q12, .int .i64 q13, .int .i64 q14, .int .i64 q15, .int .i64 q16, .int .i64 q17, .int .i64 q18, .int .i64 q19] 83 (0, 0)) :: (b1, .cells #[.int .i64 (0), .int .i64 (0), .int .i64 (0), .int .i64 (0), .int .i64 (0), .int .i64 (0), .int .i64 (0), .int .i64 (0), .int .i64 (0), .int .i64 (0), .int .i64 (0), .int .i64 (0), .int .i64 (0), .int .i64 (0), .int .i64 (0), .int .i64 (0), .int .i64 (0), .int .i64 (0), .int .i64 (0), .int .i64 (0), .int .i64 (0), .int .i64 (0), .int .i64 (0), .int .i64 (0), .int .i64 (0), .int .u64 (0)] 26 (0, 0)) :: M) (fun w h => h) ?_
        refine TC.drawL ((b4, .cells #[.int .i64 q0, .int .i64 q1, .int .i64 q2, .int .i64 q3, .int .i64 q4, .int .i64 q5, .int .i64 q6, .int .i64 q7, .int .i64 q8, .int .i64 q9, .int .i64 q10, .int .i64 q11, .int .i64 q12, .int .i64 q13, .int .i64 q14, .int .i64 q15, .int .i64 q16, .int .i64 q17, .int .i64 q18, .int .i64 q19] 83 (0, 0)) :: (b1, .cells #[.int .i64 (0), .int .i64 (0), .int .i64 (0), .int .i64 (0), .int .i64 (0), .int .i64 (0), .int .i64 (0), .int .i64 (0), .int .i64 (0), .int .i64 (0), .int .i64 (0), .int .i64 (0), .int .i64 (0), .int .i64 (0), .int .i64 (0), .int .i64 (0), .int .i64 (0), .int .i64 (0), .int .i64 (0), .int .i64 (0), .int .i64 (0), .int .i64 (0), .int .i64 (0), .int .i64 (0), .int .i64 (0), .int .u64 (0)] 26 (0, 0)) :: M) mixed 13 ?_
        refine TA.tk 0 1 rfl rfl rfl (Val.indexAddrA (i := 14) rfl rfl ar83 sz3 rfl (by first | decide | omega) rfl) ?_
        refine TA.tk 1 3 rfl rfl rfl (Val.load 0 rfl ag3 rfl rfl) ?_
        refine TA.tk 2 7 rfl rfl rfl (Val.rem rfl rfl (by first | decide | omega) (r := a14) ha14) ?_
        refine TA.tk 3 15 rfl rfl rfl (Val.add rfl rfl (w_i64 (by omega) (by omega))) ?_
        refine TA.tk 4 31 rfl rfl rfl (Val.indexAddrA (i := 14) rfl rfl ar83 sz3 rfl (by first | decide | omega) rfl) ?_
        refine TA.tk 5 63 rfl rfl rfl (Val.load 0 rfl ag3 rfl rfl) ?_
        refine TA.tk 6 127 rfl rfl rfl (Val.quo rfl rfl (by decide) (r := b14) (by rw [hb14]; exact w_i64 (by omega) (by omega))) ?_
        refine TA.tk 7 255 rfl rfl rfl (Val.rem rfl rfl (by first | decide | omega) (r := c14) hc14) ?_
        refine TA.tk 8 511 rfl rfl rfl (Val.add rfl rfl (w_i64 (by omega) (by omega))) ?_
        refine TA.tk 9 1023 rfl rfl rfl (Val.fieldAddr rfl fl26_15 sz3 rfl) ?_
        refine TA.one 10 (by kernel_rfl) ?_
        refine TO.dz 2047 none rfl rfl rfl rfl (Does.store (i := 0) rfl rfl rfl sz3 rfl rfl (by first | exact Nat.le_of_ble_eq_true rfl | decide | omega) rfl rfl) ?_
        rintro _ _ ⟨rfl, rfl⟩
        refine roK ?_
        refine TA.tk 11 4095 rfl rfl rfl (Val.fieldAddr rfl fl26_16 sz3 rfl) ?_
        refine TA.one 12 (by kernel_rfl) ?_
        refine TO.dz 8191 none rfl rfl rfl rfl (Does.store (i := 0) rfl rfl rfl sz3 rfl rfl (by first | exact Nat.le_of_ble_eq_true rfl | decide | omega) rfl rfl) ?_
        rintro _ _ ⟨rfl, rfl⟩
        refine roK ?_
        refine TA.done (by kernel_rfl) ?_
        refine AtX.then ?_
        refine TC.env (E' := [(2, _), (3, _), (4, _)]) (Sub.cons rfl (Sub.cons rfl (Sub.cons rfl (Sub.nil _)))) ?_
        refine TC.seq ?_
        refine TC.heap (M' := (b3, .cells #[.int .i64 (3 * a0 + 1 + a1), .int .i64 (a0), .int .i64 (1 + a2), .int .i64 (2 * a0 + 1 + a3), .int .i64 (1 + a4), .int .i64 (1 + a5), .int .i64 (1 + a6), .int .i64 (T0), .int .i64 (T1), .int .i64 (0), .int .i64 (0), .int .i64 (a9), .int .i64 (1 + a10), .int .i64 (1 + a10 + c10), .int .i64 (a11), .int .i64 (a12), .int .i64 (1 + a13), .int .i64 (1 + c13), .int .i64 (1 + a14), .int .i64 (1 + c14), .int .i64 (2), .int .i64 (100), .int .i64 (3), .int .i64 (4), .int .i64 (256), .int .u64 (1)] 26 (0, 0)) :: (b4, .cells #[.int .i64 q0, .int .i64 q1, .int .i64 q2, .int .i64 q3, .int .i64 q4, .int .i64 q5, .int .i64 q6, .int .i64 q7, .int .i64 q8, .int .i64 q9, .int .i64 q10, .int .i64 q11, .int .i64 q12, .int .i64 q13, .int .i64 q14, .int .i64 q15, .int .i64 q16, .int .i64 q17, .int .i64 q18, .int .i64 q19] 83 (0, 0)) :: (b1, .cells #[.int .i64 (0), .int .i64 (0), .int .i64 (0), .int .i64 (0), .int .i64 (0), .int .i64 (0), .int .i64 (0), .int .i64 (0), .int .i64 (0), .int .i64 (0), .int .i64 (0), .int .i64 (0), .int .i64 (0), .int .i64 (0), .int .i64 (0), .int .i64 (0), .int .i64 (0), .int .i64 (0), .int .i64 (0), .int .i64 (0), .int .i64 (0), .int .i64 (0), .int .i64 (0), .int .i64 (0), .int .i64 (0), .int .u64 (0)] 26 (0, 0)) :: M) (fun w h => h) ?_
        refine TC.region ?_
        refine TL.val rfl rfl (Nat.le_of_ble_eq_true rfl) (Val.indexAddrA (i := 15) rfl rfl ar83 sz3 rfl (by first | decide | omega) rfl) ?_
        refine TL.val rfl rfl (Nat.le_of_ble_eq_true rfl) (Val.load 1 rfl ag3 rfl rfl) ?_
        refine TL.val rfl rfl (Nat.le_of_ble_eq_true rfl) (Val.rem rfl rfl (by first | decide | omega) (r := a15) ha15) ?_
        refine TL.val rfl rfl (Nat.le_of_ble_eq_true rfl) (Val.add rfl rfl (w_i64 (by omega) (by omega))) ?_
        refine TL.val rfl rfl (Nat.le_of_ble_eq_true rfl) (Val.fieldAddr rfl fl26_17 sz3 rfl) ?_
        refine TL.does none rfl rfl rfl (Does.store (i := 0) rfl rfl rfl sz3 rfl rfl (by first | exact Nat.le_of_ble_eq_true rfl | decide | omega) rfl rfl) ?_
        rintro _ _ ⟨rfl, rfl⟩
        refine TL.nil ?_
        refine AtX.then ?_
        refine TC.env (E' := [(2, _), (3, _), (4, _)]) (Sub.cons rfl (Sub.cons rfl (Sub.cons rfl (Sub.nil _)))) ?_
        refine TC.seq ?_
        refine TC.heap (M' := (b3, .cells #[.int .i64 (3 * a0 + 1 + a1), .int .i64 (a0), .int .i64 (1 + a2), .int .i64 (2 * a0 + 1 + a3), .int .i64 (1 + a4), .int .i64 (1 + a5), .int .i64 (1 + a6), .int .i64 (T0), .int .i64 (T1), .int .i64 (0), .int .i64 (0), .int .i64 (a9), .int .i64 (1 + a10), .int .i64 (1 + a10 + c10), .int .i64 (a11), .int .i64 (a12), .int .i64 (1 + a13), .int .i64 (1 + c13), .int .i64 (1 + a14), .int .i64 (1 + c14), .int .i64 (1 + a15), .int .i64 (100), .int .i64 (3), .int .i64 (4), .int .i64 (256), .int .u64 (1)] 26 (0, 0)) :: (b4, .cells #[.int .i64 q0, .int .i64 q1, .int .i64 q2, .int .i64 q3, .int .i64 q4, .int .i64 q5, .int .i64 q6, .int .i64 q7, .int .i64 q8, .int .i64 q9, .int .i64 q10, .int .i64 q11, .int .i64 q12, .int .i64 q13, .int .i64 q14, .int .i64 q15, .int .i64 q16, .int .i64 q17, .int .i64 q18, .int .i64 q19] 83 (0, 0)) :: (b1, .cells #[.int .i64 (0), .int .i64 (0), .int .i64 (0), .int .i64 (0), .int .i64 (0), .int .i64 (0), .int .i64 (0), .int .i64 (0), .int .i64 (0), .int .i64 (0), .int .i64 (0), .int .i64 (0), .int .i64 (0), .int .i64 (0), .int .i64 (0), .int .i64 (0), .int .i64 (0), .int .i64 (0), .int .i64 (0), .int .i64 (0), .int .i64 (0), .int .i64 (0), .int .i64 (0), .int .i64 (0), .int .i64 (0), .int .u64 (0)] 26 (0, 0)) :: M) (fun w h => h) ?_
        refine TC.region ?_
        refine TL.val rfl rfl (Nat.le_of_ble_eq_true rfl) (Val.indexAddrA (i := 16) rfl rfl ar83 sz3 rfl (by first | decide | omega) rfl) ?_
        refine TL.val rfl rfl (Nat.le_of_ble_eq_true rfl) (Val.load 1 rfl ag3 rfl rfl) ?_
        refine TL.val rfl rfl (Nat.le_of_ble_eq_true rfl) (Val.rem rfl rfl (by first | decide | omega) (r := a16) ha16) ?_
        refine TL.val rfl rfl (Nat.le_of_ble_eq_true rfl) (Val.fieldAddr rfl fl26_18 sz2 rfl) ?_
        refine TL.does none rfl rfl rfl (Does.store (i := 0) rfl rfl rfl sz2 rfl rfl (by first | exact Nat.le_of_ble_eq_true rfl | decide | omega) rfl rfl) ?_
        rintro _ _ ⟨rfl, rfl⟩
        refine TL.nil ?_
        refine AtX.then ?_
        refine TC.env (E' := [(2, _), (3, _), (4, _)]) (Sub.cons rfl (Sub.cons rfl (Sub.cons rfl (Sub.nil _)))) ?_
        refine TC.seq ?_
        refine TC.heap (M' := (b3, .cells #[.int .i64 (3 * a0 + 1 + a1), .int .i64 (a0), .int .i64 (1 + a2), .int .i64 (2 * a0 + 1 + a3), .int .i64 (1 + a4), .int .i64 (1 + a5), .int .i64 (1 + a6), .int .i64 (T0), .int .i64 (T1), .int .i64 (0), .int .i64 (0), .int .i64 (a9), .int .i64 (1 + a10), .int .i64 (1 + a10 + c10), .int .i64 (a11), .int .i64 (a12), .int .i64 (1 + a13), .int .i64 (1 + c13), .int .i64 (1 + a14), .int .i64 (1 + c14), .int .i64 (1 + a15), .int .i64 (a16), .int .i64 (3), .int .i64 (4), .int .i64 (256), .int .u64 (1)] 26 (0, 0)) :: (b4, .cells #[.int .i64 q0, .int .i64 q1, .int .i64 q2, .int .i64 q3, .int .i64 q4, .int .i64 q5, .int .i64 q6, .int .i64 q7, .int .i64 q8, .int .i64 q9, .int .i64 q10, .int .i64 q11, .int .i64 q12, .int .i64 q13, .int .i64 q14, .int .i64 q15, .int .i64 q16, .int .i64 q17, .int .i64 q18, .int .i64 q19] 83 (0, 0)) :: (b1, .cells #[.int .i64 (0), .int .i64 (0), .int .i64 (0), .int .i64 (0), .int .i64 (0), .int .i64 (0), .int .i64 (0), .int .i64 (0), .int .i64 (0), .int .i64 (0), .int .i64 (0), .int .i64 (0), .int .i64 (0), .int .i64 (0), .int .i64 (0), .int .i64 (0), .int .i64 (0), .int .i64 (0), .int .i64 (0), .int .i64 (0), .int .i64 (0), .int .i64 (0), .int .i64 (0), .int .i64 (0), .int .i64 (0), .int .u64 (0)] 26 (0, 0)) :: M) (fun w h => h) ?_
        refine TC.drawL ((b4, .cells #[.int .i64 q0, .int .i64 q1, .int .i64 q2, .int .i64 q3, .int .i64 q4, .int .i64 q5, .int .i64 q6, .int .i64 q7, .int .i64 q8, .int .i64 q9, .int .i64 q10, .int .i64 q11, .int .i64 q12, .int .i64 q13, .int .i64 q14, .int .i64 q15, .int .i64 q16, .int .i64 q17, .int .i64 q18, .int .i64 q19] 83 (0, 0)) :: (b1, .cells #[.int .i64 (0), .int .i64 (0), .int .i64 (0), .int .i64 (0), .int .i64 (0), .int .i64 (0), .int .i64 (0), .int .i64 (0), .int .i64 (0), .int .i64 (0), .int .i64 (0), .int .i64 (0), .int .i64 (0), .int .i64 (0), .int .i64 (0), .int .i64 (0), .int .i64 (0), .int .i64 (0), .int .i64 (0), .int .i64 (0), .int .i64 (0), .int .i64 (0), .int .i64 (0), .int .i64 (0), .int .i64 (0), .int .u64 (0)] 26 (0, 0)) :: M) mixed 13 ?_
        refine TA.tk 0 1 rfl rfl rfl (Val.indexAddrA (i := 17) rfl rfl ar83 sz3 rfl (by first | decide | omega) rfl) ?_
        refine TA.tk 1 3 rfl rfl rfl (Val.load 0 rfl ag3 rfl rfl) ?_
        refine TA.tk 2 7 rfl rfl rfl (Val.rem rfl rfl (by first | decide | omega) (r := a17) ha17) ?_
        refine TA.tk 3 15 rfl rfl rfl (Val.add rfl rfl (w_i64 (by omega) (by omega))) ?_
        refine TA.tk 4 31 rfl rfl rfl (Val.indexAddrA (i := 17) rfl rfl ar83 sz3 rfl (by first | decide | omega) rfl) ?_
        refine TA.tk 5 63 rfl rfl rfl (Val.load 0 rfl ag3 rfl rfl) ?_
        refine TA.tk 6 127 rfl rfl rfl (Val.quo rfl rfl (by decide) (r := b17) (by rw [hb17]; exact w_i64 (by omega) (by omega))) ?_
        refine TA.tk 7 255 rfl rfl rfl (Val.rem rfl rfl (by first | decide | omega) (r := c17) hc17) ?_
        refine TA.tk 8 511 rfl rfl rfl (Val.add rfl rfl (w_i64 (by omega) (by omega))) ?_
        refine TA.tk 9 1023 rfl rfl rfl (Val.fieldAddr rfl fl26_19 sz3 rfl) ?_
        refine TA.one 10 (by kernel_rfl) ?_
        refine TO.dz 2047 none rfl rfl rfl rfl (Does.store (i := 0) rfl rfl rfl sz3 rfl rfl (by first | exact Nat.le_of_ble_eq_true rfl | decide | omega) rfl rfl) ?_
        rintro _ _ ⟨rfl, rfl⟩
        refine roK ?_
        refine TA.tk 11 4095 rfl rfl rfl (Val.fieldAddr rfl fl26_20 sz3 rfl) ?_
        refine TA.one 12 (by kernel_rfl) ?_
        refine TO.dz 8191 none rfl rfl rfl rfl (Does.store (i := 0) rfl rfl rfl sz3 rfl rfl (by first | exact Nat.le_of_ble_eq_true rfl | decide | omega) rfl rfl) ?_
        rintro _ _ ⟨rfl, rfl⟩
        refine roK ?_
        refine TA.done (by kernel_rfl) ?_
        refine AtX.then ?_
        refine TC.env (E' := [(2, _), (3, _), (4, _)]) (Sub.cons rfl (Sub.cons rfl (Sub.cons rfl (Sub.nil _)))) ?_
        refine TC.seq ?_
        refine TC.heap (M' := (b3, .cells #[.int .i64 (3 * a0 + 1 + a1), .int .i64 (a0), .int .i64 (1 + a2), .int .i64 (2 * a0 + 1 + a3), .int .i64 (1 + a4), .int .i64 (1 + a5), .int .i64 (1 + a6), .int .i64 (T0), .int .i64 (T1), .int .i64 (0), .int .i64 (0), .int .i64 (a9), .int .i64 (1 + a10), .int .i64 (1 + a10 + c10), .int .i64 (a11), .int .i64 (a12), .int .i64 (1 + a13), .int .i64 (1 + c13), .int .i64 (1 + a14), .int .i64 (1 + c14), .int .i64 (1 + a15), .int .i64 (a16), .int .i64 (1 + a17), .int .i64 (1 + c17), .int .i64 (256), .int .u64 (1)] 26 (0, 0)) :: (b4, .cells #[.int .i64 q0, .int .i64 q1, .int .i64 q2, .int .i64 q3, .int .i64 q4, .int .i64 q5, .int .i64 q6, .int .i64 q7, .int .i64 q8, .int .i64 q9, .int .i64 q10, .int .i64 q11, .int .i64 q12, .int .i64 q13, .int .i64 q14, .int .i64 q15, .int .i64 q16, .int .i64 q17, .int .i64 q18, .int .i64 q19] 83 (0, 0)) :: (b1, .cells #[.int .i64 (0), .int .i64 (0), .int .i64 (0), .int .i64 (0), .int .i64 (0), .int .i64 (0), .int .i64 (0), .int .i64 (0), .int .i64 (0), .int .i64 (0), .int .i64 (0), .int .i64 (0), .int .i64 (0), .int .i64 (0), .int .i64 (0), .int .i64 (0), .int .i64 (0), .int .i64 (0), .int .i64 (0), .int .i64 (0), .int .i64 (0), .int .i64 (0), .int .i64 (0), .int .i64 (0), .int .i64 (0), .int .u64 (0)] 26 (0, 0)) :: M) (fun w h => h) ?_
        refine TC.region ?_
        refine TL.val rfl rfl (Nat.le_of_ble_eq_true rfl) (Val.indexAddrA (i := 18) rfl rfl ar83 sz3 rfl (by first | decide | omega) rfl) ?_
        refine TL.val rfl rfl (Nat.le_of_ble_eq_true rfl) (Val.load 1 rfl ag3 rfl rfl) ?_
        refine TL.val rfl rfl (Nat.le_of_ble_eq_true rfl) (Val.rem rfl rfl (by first | decide | omega) (r := a18) ha18) ?_
        refine TL.val rfl rfl (Nat.le_of_ble_eq_true rfl) (Val.add rfl rfl (w_i64 (by omega) (by omega))) ?_
        refine TL.val rfl rfl (Nat.le_of_ble_eq_true rfl) (Val.fieldAddr rfl fl26_21 sz3 rfl) ?_
        refine TL.does none rfl rfl rfl (Does.store (i := 0) rfl rfl rfl sz3 rfl rfl (by first | exact Nat.le_of_ble_eq_true rfl | decide | omega) rfl rfl) ?_
        rintro _ _ ⟨rfl, rfl⟩
        refine TL.nil ?_
        refine AtX.then ?_
        refine TC.env (E' := [(2, _), (3, _), (4, _)]) (Sub.cons rfl (Sub.cons rfl (Sub.cons rfl (Sub.nil _)))) ?_
        refine TC.seq ?_
        refine TC.heap (M' := (b3, .cells #[.int .i64 (3 * a0 + 1 + a1), .int .i64 (a0), .int .i64 (1 + a2), .int .i64 (2 * a0 + 1 + a3), .int .i64 (1 + a4), .int .i64 (1 + a5), .int .i64 (1 + a6), .int .i64 (T0), .int .i64 (T1), .int .i64 (0), .int .i64 (0), .int .i64 (a9), .int .i64 (1 + a10), .int .i64 (1 + a10 + c10), .int .i64 (a11), .int .i64 (a12), .int .i64 (1 + a13), .int .i64 (1 + c13), .int .i64 (1 + a14), .int .i64 (1 + c14), .int .i64 (1 + a15), .int .i64 (a16), .int .i64 (1 + a17), .int .i64 (1 + c17), .int .i64 (64 + a18), .int .u64 (1)] 26 (0, 0)) :: (b4, .cells #[.int .i64 q0, .int .i64 q1, .int .i64 q2, .int .i64 q3, .int .i64 q4, .int .i64 q5, .int .i64 q6, .int .i64 q7, .int .i64 q8, .int .i64 q9, .int .i64 q10, .int .i64 q11, .int .i64 q12, .int .i64 q13, .int .i64 q14, .int .i64 q15, .int .i64 q16, .int .i64 q17, .int .i64 q18, .int .i64 q19] 83 (0, 0)) :: (b1, .cells #[.int .i64 (0), .int .i64 (0), .int .i64 (0), .int .i64 (0), .int .i64 (0), .int .i64 (0), .int .i64 (0), .int .i64 (0), .int .i64 (0), .int .i64 (0), .int .i64 (0), .int .i64 (0), .int .i64 (0), .int .i64 (0), .int .i64 (0), .int .i64 (0), .int .i64 (0), .int .i64 (0), .int .i64 (0), .int .i64 (0), .int .i64 (0), .int .i64 (0), .int .i64 (0), .int .i64 (0), .int .i64 (0), .int .u64 (0)] 26 (0, 0)) :: M) (fun w h => h) ?_
        refine TC.region ?_
        refine TL.val rfl rfl (Nat.le_of_ble_eq_true rfl) (Val.indexAddrA (i := 19) rfl rfl ar83 sz3 rfl (by first | decide | omega) rfl) ?_
        refine TL.val rfl rfl (Nat.le_of_ble_eq_true rfl) (Val.load 1 rfl ag3 rfl rfl) ?_
        refine TL.val rfl rfl (Nat.le_of_ble_eq_true rfl) (Val.convI rfl iu3 in24 (w_u64 (by omega) (by omega))) ?_
        refine TL.val rfl rfl (Nat.le_of_ble_eq_true rfl) (Val.fieldAddr rfl fl26_22 sz24 rfl) ?_
        refine TL.does none rfl rfl rfl (Does.store (i := 0) rfl rfl rfl sz24 rfl rfl (by first | exact Nat.le_of_ble_eq_true rfl | decide | omega) rfl rfl) ?_
        rintro _ _ ⟨rfl, rfl⟩
        refine TL.nil ?_
        refine AtX.then ?_
        refine TC.env (E' := [(2, _), (3, _)]) (Sub.cons rfl (Sub.cons rfl (Sub.nil _))) ?_
        refine TC.seq ?_
        refine TC.heap (M' := (b3, .cells #[.int .i64 (3 * a0 + 1 + a1), .int .i64 (a0), .int .i64 (1 + a2), .int .i64 (2 * a0 + 1 + a3), .int .i64 (1 + a4), .int .i64 (1 + a5), .int .i64 (1 + a6), .int .i64 (T0), .int .i64 (T1), .int .i64 (0), .int .i64 (0), .int .i64 (a9), .int .i64 (1 + a10), .int .i64 (1 + a10 + c10), .int .i64 (a11), .int .i64 (a12), .int .i64 (1 + a13), .int .i64 (1 + c13), .int .i64 (1 + a14), .int .i64 (1 + c14), .int .i64 (1 + a15), .int .i64 (a16), .int .i64 (1 + a17), .int .i64 (1 + c17), .int .i64 (64 + a18), .int .u64 (q19)] 26 (0, 0)) :: (b4, .cells #[.int .i64 q0, .int .i64 q1, .int .i64 q2, .int .i64 q3, .int .i64 q4, .int .i64 q5, .int .i64 q6, .int .i64 q7, .int .i64 q8, .int .i64 q9, .int .i64 q10, .int .i64 q11, .int .i64 q12, .int .i64 q13, .int .i64 q14, .int .i64 q15, .int .i64 q16, .int .i64 q17, .int .i64 q18, .int .i64 q19] 83 (0, 0)) :: (b1, .cells #[.int .i64 (0), .int .i64 (0), .int .i64 (0), .int .i64 (0), .int .i64 (0), .int .i64 (0), .int .i64 (0), .int .i64 (0), .int .i64 (0), .int .i64 (0), .int .i64 (0), .int .i64 (0), .int .i64 (0), .int .i64 (0), .int .i64 (0), .int .i64 (0), .int .i64 (0), .int .i64 (0), .int .i64 (0), .int .i64 (0), .int .i64 (0), .int .i64 (0), .int .i64 (0), .int .i64 (0), .int .i64 (0), .int .u64 (0)] 26 (0, 0)) :: M) (fun w h => h) ?_
        refine TC.region ?_
        refine TL.val rfl rfl (Nat.le_of_ble_eq_true rfl) (Val.loadAgg (vs := [.int .i64 (3 * a0 + 1 + a1), .int .i64 (a0), .int .i64 (1 + a2), .int .i64 (2 * a0 + 1 + a3), .int .i64 (1 + a4), .int .i64 (1 + a5), .int .i64 (1 + a6), .int .i64 (T0), .int .i64 (T1), .int .i64 (0), .int .i64 (0), .int .i64 (a9), .int .i64 (1 + a10), .int .i64 (1 + a10 + c10), .int .i64 (a11), .int .i64 (a12), .int .i64 (1 + a13), .int .i64 (1 + c13), .int .i64 (1 + a14), .int .i64 (1 + c14), .int .i64 (1 + a15), .int .i64 (a16), .int .i64 (1 + a17), .int .i64 (1 + c17), .int .i64 (64 + a18), .int .u64 (q19)]) 0 rfl ag26 sz26 rfl rfl rfl) ?_
        refine TL.does none rfl rfl rfl (Does.storeR (ys' := [.int .i64 (3 * a0 + 1 + a1), .int .i64 (a0), .int .i64 (1 + a2), .int .i64 (2 * a0 + 1 + a3), .int .i64 (1 + a4), .int .i64 (1 + a5), .int .i64 (1 + a6), .int .i64 (T0), .int .i64 (T1), .int .i64 (0), .int .i64 (0), .int .i64 (a9), .int .i64 (1 + a10), .int .i64 (1 + a10 + c10), .int .i64 (a11), .int .i64 (a12), .int .i64 (1 + a13), .int .i64 (1 + c13), .int .i64 (1 + a14), .int .i64 (1 + c14), .int .i64 (1 + a15), .int .i64 (a16), .int .i64 (1 + a17), .int .i64 (1 + c17), .int .i64 (64 + a18), .int .u64 (q19)]) 2 rfl rfl rfl sz26 rfl rfl (by exact Nat.le_of_ble_eq_true rfl) rfl) ?_
        rintro _ _ ⟨rfl, rfl⟩
        refine TL.nil ?_
        refine AtX.then ?_
        refine TC.env (E' := [(2, _)]) (Sub.cons rfl (Sub.nil _)) ?_
        refine TC.ret1 (fn := Try.f11) (fun _ _ h => h) rfl (RV.agg (i := 2) rfl ag26 sz26 rfl rfl rfl) (M' := M) (by repeat (first | exact ro_refl | exact ro_pre | refine ro_tail ?_ | refine ro_app ?_)) ?_
        refine ⟨⟨3 * a0 + 1 + a1, a0, 1 + a2, 2 * a0 + 1 + a3, 1 + a4, 1 + a5, 1 + a6, T0, T1, 0, 0, a9, 1 + a10, 1 + a10 + c10, a11, a12, 1 + a13, 1 + c13, 1 + a14, 1 + c14, 1 + a15, a16, 1 + a17, 1 + c17, 64 + a18, q19⟩, rfl, ?_, rfl⟩
        exact fit_fin ga0 la0 ga1 la1 ga2 la2 ga3 la3 ga4 la4 ga5 la5 ga6 la6 ga9 la9 ga10 la10 ga11 la11 ga12 la12 ga13 la13 ga14 la14 ga15 la15 ga16 la16 ga17 la17 ga18 la18 gc10 lc10 gc13 lc13 gc14 lc14 gc17 lc17 hT0b hT1b hq19

end Go.Proofs.Ytphoapajlcaoeaa
/- walks -/
set_option linter.unusedVariables false
set_option linter.unusedSimpArgs false
set_option maxRecDepth 100000
set_option maxHeartbeats 4000000
namespace Go.Proofs.Ytphoapajlcaoeaa
open Go Go.X
/-- bytes.Equal -/
theorem Equal_fn (l m : List UInt8) (A B : Option Addr) (n n2 c c2 : Nat) (M : Hp) (hA : RdS M A (bv l)) (hB : RdS M B (bv m)) (hn : n = l.length) (hn2 : n2 = m.length) : FnC Try.prog 107 #[.slice A n c, .slice B n2 c2] M (fun v M' => ∃ g, g = decide (l = m) ∧ v = .bool g ∧ M = M') := by
  refine FnC.intro Try.func107 rfl 10 rfl (by simp) (fun z => ?_)
  refine TC.env (E' := [(0, _), (1, _)]) (Sub.cons rfl (Sub.cons rfl (Sub.nil _))) ?_
  refine TC.seq ?_
  refine TC.region ?_
  refine TL.val rfl rfl (Nat.le_of_ble_eq_true rfl) (Val.assign rfl) ?_
  refine TL.nil ?_
  refine AtX.then ?_
  refine TC.seq ?_
  refine TC.region ?_
  refine TL.val rfl rfl (Nat.le_of_ble_eq_true rfl) (Val.move rfl) ?_
  refine TL.val rfl rfl (Nat.le_of_ble_eq_true rfl) (Val.b2s rfl us37 ui5 un9 hn hA) ?_
  refine TL.val rfl rfl (Nat.le_of_ble_eq_true rfl) (Val.move rfl) ?_
  refine TL.val rfl rfl (Nat.le_of_ble_eq_true rfl) (Val.b2s rfl us37 ui5 un9 hn2 hB) ?_
  refine TL.val rfl rfl (Nat.le_of_ble_eq_true rfl) (Val.eqlL rfl rfl) ?_
  refine TL.val rfl rfl (Nat.le_of_ble_eq_true rfl) (Val.assign rfl) ?_
  refine TL.nil ?_
  refine AtX.then ?_
  refine TC.env (E' := [(4, _)]) (Sub.cons rfl (Sub.nil _)) ?_
  refine TC.ret1 (fn := Try.f107) (fun _ _ h => h) rfl (RV.tmp rfl) (fun _ h => h) ?_
  exact ⟨_, rfl, rfl, rfl⟩

/-- bytes.Clone -/
theorem Clone_fn (l : List UInt8) (p : Addr) (n c : Nat) (M : Hp) (hA : RdS M (some p) (bv l)) (hn : n = l.length) (hl : l.length ≤ 100000) : FnC Try.prog 82 #[.slice (some p) n c] M (fun v M' => ∃ σ, v = .slice (slA σ) l.length (slC σ) ∧ slOk σ 1 l.length (bv l) ∧ M' = slH σ 5 (bv l) ++ M) := by
  subst hn
  refine FnC.intro Try.func82 rfl 8 rfl (by simp) (fun z => ?_)
  refine TC.env (E' := [(0, _)]) (Sub.cons rfl (Sub.nil _)) ?_
  refine TC.seq ?_
  refine TC.region ?_
  refine TL.val rfl rfl (Nat.le_of_ble_eq_true rfl) (Val.assign rfl) ?_
  refine TL.nil ?_
  refine AtX.then ?_
  refine TC.seq ?_
  refine TC.seq ?_
  refine TC.region ?_
  refine TL.val rfl rfl (Nat.le_of_ble_eq_true rfl) (Val.move rfl) ?_
  refine TL.val rfl rfl (Nat.le_of_ble_eq_true rfl) (Val.eqlNilS rfl rfl sl37) ?_
  refine TL.nil ?_
  refine AtX.then ?_
  refine TC.env (E' := [(0, _), (2, _), (4, _)]) (Sub.cons rfl (Sub.cons rfl (Sub.cons rfl (Sub.nil _)))) ?_
  first | refine TC.condP rfl (fun c1 => ?_) (fun c1 => ?_) | refine TC.condN rfl (fun c1 => ?_) (fun c1 => ?_) | refine TC.condB rfl (fun c1 => ?_) (fun c1 => ?_) | refine TC.cond rfl (fun c1 => ?_) (fun c1 => ?_)
  · skip
    (exfalso; simp at c1)
  · skip
    refine TC.env (E' := [(0, _), (2, _)]) (Sub.cons rfl (Sub.cons rfl (Sub.nil _))) ?_
    refine TC.skip ?_
    refine AtX.then ?_
    refine TC.env (E' := [(0, _), (2, _)]) (Sub.cons rfl (Sub.cons rfl (Sub.nil _))) ?_
    refine TC.seq ?_
    refine TC.region ?_
    refine TL.does (some 5) rfl rfl rfl (Does.buildSlice0 sl37 sz5) ?_
    rintro _ _ ⟨b1, rfl, rfl⟩
    refine TL.val rfl rfl (Nat.le_of_ble_eq_true rfl) (Val.move rfl) ?_
    refine TL.does (some 7) rfl rfl rfl (Does.appendS (xs := []) (ys := bv l) (n := 0) (some (b1, 0, [])) M ro_refl rfl rfl sl37 sz5 by5 ze5 rfl ⟨rfl, rfl⟩ (srcB us37 ((hA.cons _))) (by simp) (bv_one _) (by omega) (by omega)) ?_
    rintro _ _ ⟨σ, rfl, hok, rfl⟩
    refine TL.val rfl rfl (Nat.le_of_ble_eq_true rfl) (Val.assign rfl) ?_
    refine TL.nil ?_
    refine AtX.then ?_
    refine TC.env (E' := [(2, _)]) (Sub.cons rfl (Sub.nil _)) ?_
    refine TC.ret1 (fn := Try.f82) (fun _ _ h => h) rfl (RV.tmp rfl) (fun _ h => h) ?_
    exact ⟨σ, by simp, by simpa using hok, by simp⟩

/-- quorumite/wire.Get$1 -/
theorem clo105_fn (l : List UInt8) (A : Option Addr) (n c : Nat) (o p i : Nat) (M : Hp) (h1 : M[i]? = some (p, .cells #[.slice A n c] 37 (0, 0))) (hA : RdS M A (bv l)) (hn : n = l.length) (hl : l.length ≤ 1000) (ho : o + 8 ≤ l.length) : FnC Try.prog 105 #[.int .i64 (o : Nat), .pointer (some ⟨p, 0, none⟩)] M (fun v M' => v = .int .i64 (IntKind.i64.wrap ((get8 l o : Nat) : Int)) ∧ M = M') := by
  refine FnC.intro Try.func105 rfl 14 rfl (by simp) (fun z => ?_)
  refine TC.env (E' := [(0, _), (1, _)]) (Sub.cons rfl (Sub.cons rfl (Sub.nil _))) ?_
  refine TC.seq ?_
  refine TC.region ?_
  refine TL.val rfl rfl (Nat.le_of_ble_eq_true rfl) (Val.assign rfl) ?_
  refine TL.nil ?_
  refine AtX.then ?_
  refine TC.seq ?_
  refine TC.region ?_
  refine TL.val rfl rfl (Nat.le_of_ble_eq_true rfl) (Val.load i rfl ag37 h1 rfl) ?_
  refine TL.val rfl rfl (Nat.le_of_ble_eq_true rfl) (Val.move rfl) ?_
  refine TL.does (some 9) rfl rfl rfl (Does.callF go106 rfl (sipGet_fn l _ _ _ o _ hA hn hl ho)) ?_
  rintro _ _ ⟨rfl, rfl⟩
  refine TL.val rfl rfl (Nat.le_of_ble_eq_true rfl) (Val.move rfl) ?_
  refine TL.val rfl rfl (Nat.le_of_ble_eq_true rfl) (Val.extract rfl rfl) ?_
  refine TL.val rfl rfl (Nat.le_of_ble_eq_true rfl) (Val.extract rfl rfl) ?_
  refine TL.val rfl rfl (Nat.le_of_ble_eq_true rfl) (Val.assign rfl) ?_
  refine TL.val rfl rfl (Nat.le_of_ble_eq_true rfl) (Val.assign rfl) ?_
  refine TL.nil ?_
  refine AtX.then ?_
  refine TC.env (E' := [(3, _), (4, _)]) (Sub.cons rfl (Sub.cons rfl (Sub.nil _))) ?_
  refine TC.seq ?_
  refine TC.region ?_
  refine TL.val rfl rfl (Nat.le_of_ble_eq_true rfl) (Val.move rfl) ?_
  refine TL.val rfl rfl (Nat.le_of_ble_eq_true rfl) (Val.convI rfl iu24 in2 rfl) ?_
  refine TL.val rfl rfl (Nat.le_of_ble_eq_true rfl) (Val.assign rfl) ?_
  refine TL.nil ?_
  refine AtX.then ?_
  refine TC.env (E' := [(3, _)]) (Sub.cons rfl (Sub.nil _)) ?_
  refine TC.ret1 (fn := Try.f105) (fun _ _ h => h) rfl (RV.tmp rfl) (fun _ h => h) ?_
  exact ⟨rfl, rfl⟩

/-- quorumite/wire.Get -/
theorem wGet_fn (m : Ms) (A : Option Addr) (n c : Nat) (M : Hp) (hA : RdS M A (bv (putM m))) (hn : n = 32) (hm : mayM m = true) : FnC Try.prog 80 #[.slice A n c] M (fun v M' => v = .tuple #[.agg #[.int .i64 m.kind, .int .i64 m.who, .int .i64 m.gen, .int .i64 m.seq, .int .i64 m.epoch, .int .i64 m.value, .int .i64 m.metric], .int .i64 0] ∧ M = M') := by
  subst hn
  obtain ⟨bA, oA, rfl, hR⟩ := RdS.get hA (by simp)
  have hb := mayM_iff.1 hm
  have hvb := val_bd hm
  have hmb : 0 ≤ m.metric ∧ m.metric ≤ 255 := by rw [← putM_metric hm]; have := UInt8.toNat_lt ((putM m).getD 3 0); omega
  refine FnC.intro Try.func80 rfl 51 rfl (by simp) (fun z => ?_)
  refine TC.env (E' := [(0, _)]) (Sub.cons rfl (Sub.nil _)) ?_
  refine TC.seq ?_
  refine TC.region ?_
  refine TL.does (some 1) rfl rfl rfl (Does.box rfl rfl) ?_
  rintro _ _ ⟨b1, rfl, rfl⟩
  refine TL.does (some 2) rfl rfl rfl (Does.alloc ze61 rfl) ?_
  rintro _ _ ⟨b2, rfl, rfl⟩
  refine TL.val rfl rfl (Nat.le_of_ble_eq_true rfl) (Val.assign rfl) ?_
  refine TL.nil ?_
  refine AtX.then ?_
  refine TC.env (E' := [(1, _), (2, _), (3, _)]) (Sub.cons rfl (Sub.cons rfl (Sub.cons rfl (Sub.nil _)))) ?_
  refine TC.seq ?_
  refine TC.seq ?_
  refine TC.region ?_
  refine TL.val rfl rfl (Nat.le_of_ble_eq_true rfl) (Val.load 1 rfl ag37 rfl rfl) ?_
  refine TL.val rfl rfl (Nat.le_of_ble_eq_true rfl) (Val.lenSl rfl rfl sl37) ?_
  refine TL.val rfl rfl (Nat.le_of_ble_eq_true rfl) (Val.neqI rfl rfl) ?_
  refine TL.nil ?_
  refine AtX.then ?_
  refine TC.env (E' := [(1, _), (2, _), (3, _), (10, _)]) (Sub.cons rfl (Sub.cons rfl (Sub.cons rfl (Sub.cons rfl (Sub.nil _))))) ?_
  first | refine TC.condP rfl (fun c1 => ?_) (fun c1 => ?_) | refine TC.condN rfl (fun c1 => ?_) (fun c1 => ?_) | refine TC.condB rfl (fun c1 => ?_) (fun c1 => ?_) | refine TC.cond rfl (fun c1 => ?_) (fun c1 => ?_)
  · skip
    exact absurd rfl c1
  · skip
    refine TC.env (E' := [(1, _), (2, _), (3, _)]) (Sub.cons rfl (Sub.cons rfl (Sub.cons rfl (Sub.nil _)))) ?_
    refine TC.skip ?_
    refine AtX.then ?_
    refine TC.env (E' := [(1, _), (2, _), (3, _)]) (Sub.cons rfl (Sub.cons rfl (Sub.cons rfl (Sub.nil _)))) ?_
    refine TC.seq ?_
    refine TC.region ?_
    refine TL.val rfl rfl (Nat.le_of_ble_eq_true rfl) (Val.makeFunc rfl rfl) ?_
    refine TL.val rfl rfl (Nat.le_of_ble_eq_true rfl) (Val.assign rfl) ?_
    refine TL.nil ?_
    refine AtX.then ?_
    refine TC.env (E' := [(1, _), (2, _), (3, _), (4, _)]) (Sub.cons rfl (Sub.cons rfl (Sub.cons rfl (Sub.cons rfl (Sub.nil _))))) ?_
    refine TC.join (ι := Nat) (fun x => [(1, .pointer (some ⟨b1, 0, none⟩)), (2, .pointer (some ⟨b2, 0, none⟩)), (3, .int .i64 0), (5, .pointer (some ⟨x, 0, none⟩))]) (fun x => (x, .cells #[.int .i64 m.kind, .int .i64 m.who, .int .i64 m.gen, .int .i64 m.seq, .int .i64 m.epoch, .int .i64 m.value, .int .i64 m.metric] 61 (0, 0)) :: (b2, .cells #[.int .i64 0, .int .i64 0, .int .i64 0, .int .i64 0, .int .i64 0, .int .i64 0, .int .i64 0] 61 (0, 0)) :: (b1, .cells #[.slice (some ⟨bA, oA, none⟩) 32 c] 37 (0, 0)) :: M) (fun _ => True) ?_ ?_
    · skip
      refine TC.drawL ((b1, .cells #[.slice (some ⟨bA, oA, none⟩) 32 c] 37 (0, 0)) :: M) mixed 25 ?_
      refine TA.tk 0 1 rfl rfl rfl (Val.load 0 rfl ag37 rfl rfl) ?_
      refine TA.tk 1 3 rfl rfl rfl (Val.indexAddr (i := 1) (r := oA + 1) rfl rfl sl37 sz5 rfl (by omega) (by omega)) ?_
      refine TA.tk 2 7 rfl rfl rfl (Val.loadB 1 rfl ag5 (hR.cons _) rfl (by simp)) ?_
      refine TA.tk 3 15 rfl rfl rfl (Val.convI rfl iu5 in3 (r := m.kind) (by rw [putM_kind hm]; exact w_i64 (by omega) (by omega))) ?_
      refine TA.tk 4 31 rfl rfl rfl (Val.load 0 rfl ag37 rfl rfl) ?_
      refine TA.tk 5 63 rfl rfl rfl (Val.indexAddr (i := 2) (r := oA + 2) rfl rfl sl37 sz5 rfl (by omega) (by omega)) ?_
      refine TA.tk 6 127 rfl rfl rfl (Val.loadB 2 rfl ag5 (hR.cons _) rfl (by simp)) ?_
      refine TA.tk 7 255 rfl rfl rfl (Val.convI rfl iu5 in3 (r := m.who) (by rw [putM_who hm]; exact w_i64 (by omega) (by omega))) ?_
      refine TA.tk 8 511 rfl rfl rfl (Val.load 0 rfl ag37 rfl rfl) ?_
      refine TA.tk 9 1023 rfl rfl rfl (Val.indexAddr (i := 3) (r := oA + 3) rfl rfl sl37 sz5 rfl (by omega) (by omega)) ?_
      refine TA.tk 10 2047 rfl rfl rfl (Val.loadB 3 rfl ag5 (hR.cons _) rfl (by simp)) ?_
      refine TA.tk 11 4095 rfl rfl rfl (Val.convI rfl iu5 in3 (r := m.metric) (by rw [putM_metric hm]; exact w_i64 (by omega) (by omega))) ?_
      refine TA.tk 12 8191 rfl rfl rfl (Val.move rfl) ?_
      refine TA.tk 16 73727 rfl rfl rfl (Val.move rfl) ?_
      refine TA.tk 18 335871 rfl rfl rfl (Val.move rfl) ?_
      refine TA.tk 20 1384447 rfl rfl rfl (Val.move rfl) ?_
      refine TA.two 13 23 (by kernel_rfl) ?_ ?_
      · skip
        refine TO.dz 1392639 (some 26) rfl rfl rfl rfl (Does.callC (cap := [.pointer (some ⟨b1, 0, none⟩)]) rfl go105 rfl (clo105_fn (putM m) (some ⟨bA, oA, none⟩) 32 c 4 b1 1 _ rfl ((hA.cons _).cons _) (by simp) (by simp) (by simp))) ?_
        rintro _ _ ⟨rfl, rfl⟩
        refine roK ?_
        refine TA.tk 14 1409023 rfl rfl rfl (Val.convI rfl iu2 in171 rfl) ?_
        refine TA.tk 15 1441791 rfl rfl rfl (Val.convI rfl iu171 in3 (r := m.gen) (by rw [putM_gen hm]; exact w_i64 (by omega) (by omega))) ?_
        refine TA.two 17 23 (by kernel_rfl) ?_ ?_
        · skip
          refine TO.dz 1572863 (some 30) rfl rfl rfl rfl (Does.callC (cap := [.pointer (some ⟨b1, 0, none⟩)]) rfl go105 rfl (clo105_fn (putM m) (some ⟨bA, oA, none⟩) 32 c 8 b1 1 _ rfl ((hA.cons _).cons _) (by simp) (by simp) (by simp))) ?_
          rintro _ _ ⟨rfl, rfl⟩
          rw [show IntKind.i64.wrap ((get8 (putM m) 8 : Nat) : Int) = m.seq from by rw [putM_seq hm]; exact w_i64 (by omega) (by omega)]
          refine roK ?_
          refine TA.two 19 23 (by kernel_rfl) ?_ ?_
          · skip
            refine TO.dz 2097151 (some 32) rfl rfl rfl rfl (Does.callC (cap := [.pointer (some ⟨b1, 0, none⟩)]) rfl go105 rfl (clo105_fn (putM m) (some ⟨bA, oA, none⟩) 32 c 16 b1 1 _ rfl ((hA.cons _).cons _) (by simp) (by simp) (by simp))) ?_
            rintro _ _ ⟨rfl, rfl⟩
            rw [show IntKind.i64.wrap ((get8 (putM m) 16 : Nat) : Int) = m.epoch from by rw [putM_epoch hm]; exact w_i64 (by omega) (by omega)]
            refine roK ?_
            refine TA.two 21 23 (by kernel_rfl) ?_ ?_
            · skip
              refine TO.dz 4194303 (some 34) rfl rfl rfl rfl (Does.callC (cap := [.pointer (some ⟨b1, 0, none⟩)]) rfl go105 rfl (clo105_fn (putM m) (some ⟨bA, oA, none⟩) 32 c 24 b1 1 _ rfl ((hA.cons _).cons _) (by simp) (by simp) (by simp))) ?_
              rintro _ _ ⟨rfl, rfl⟩
              rw [show IntKind.i64.wrap ((get8 (putM m) 24 : Nat) : Int) = m.value from by rw [putM_value hm]; exact w_i64 (by omega) (by omega)]
              refine roK ?_
              refine TA.tk 22 8388607 rfl rfl rfl (Val.buildS pl61 ze61 rfl rfl) ?_
              refine TA.one 23 (by kernel_rfl) ?_
              refine TO.dz 16777215 (some 5) rfl rfl rfl rfl (Does.alloc ze61 rfl) ?_
              rintro _ _ ⟨bm, rfl, rfl⟩
              refine roK ?_
              refine TA.one 24 (by kernel_rfl) ?_
              refine TO.dz 33554431 none rfl rfl rfl rfl (Does.store (i := 0) rfl rfl rfl sz61 rfl rfl (by first | exact Nat.le_of_ble_eq_true rfl | decide | omega) rfl rfl) ?_
              rintro _ _ ⟨rfl, rfl⟩
              refine roK ?_
              refine TA.done (by kernel_rfl) ?_
              refine AtX.join bm ?_ (Sub.cons rfl (Sub.cons rfl (Sub.cons rfl (Sub.cons rfl (Sub.nil _))))) (fun w h => h)
              trivial
            · skip
              refine TO.dz 10485759 (some 5) rfl rfl rfl rfl (Does.alloc ze61 rfl) ?_
              rintro _ _ ⟨bm, rfl, rfl⟩
              refine roK ?_
              refine TA.one 21 (by kernel_rfl) ?_
              refine TO.dz 12582911 (some 34) rfl rfl rfl rfl (Does.callC (cap := [.pointer (some ⟨b1, 0, none⟩)]) rfl go105 rfl (clo105_fn (putM m) (some ⟨bA, oA, none⟩) 32 c 24 b1 2 _ rfl (((hA.cons _).cons _).cons _) (by simp) (by simp) (by simp))) ?_
              rintro _ _ ⟨rfl, rfl⟩
              rw [show IntKind.i64.wrap ((get8 (putM m) 24 : Nat) : Int) = m.value from by rw [putM_value hm]; exact w_i64 (by omega) (by omega)]
              refine roK ?_
              refine TA.tk 22 16777215 rfl rfl rfl (Val.buildS pl61 ze61 rfl rfl) ?_
              refine TA.one 24 (by kernel_rfl) ?_
              refine TO.dz 33554431 none rfl rfl rfl rfl (Does.store (i := 0) rfl rfl rfl sz61 rfl rfl (by first | exact Nat.le_of_ble_eq_true rfl | decide | omega) rfl rfl) ?_
              rintro _ _ ⟨rfl, rfl⟩
              refine roK ?_
              refine TA.done (by kernel_rfl) ?_
              refine AtX.join bm ?_ (Sub.cons rfl (Sub.cons rfl (Sub.cons rfl (Sub.cons rfl (Sub.nil _))))) (fun w h => h)
              trivial
          · skip
            refine TO.dz 9961471 (some 5) rfl rfl rfl rfl (Does.alloc ze61 rfl) ?_
            rintro _ _ ⟨bm, rfl, rfl⟩
            refine roK ?_
            refine TA.one 19 (by kernel_rfl) ?_
            refine TO.dz 10485759 (some 32) rfl rfl rfl rfl (Does.callC (cap := [.pointer (some ⟨b1, 0, none⟩)]) rfl go105 rfl (clo105_fn (putM m) (some ⟨bA, oA, none⟩) 32 c 16 b1 2 _ rfl (((hA.cons _).cons _).cons _) (by simp) (by simp) (by simp))) ?_
            rintro _ _ ⟨rfl, rfl⟩
            rw [show IntKind.i64.wrap ((get8 (putM m) 16 : Nat) : Int) = m.epoch from by rw [putM_epoch hm]; exact w_i64 (by omega) (by omega)]
            refine roK ?_
            refine TA.one 21 (by kernel_rfl) ?_
            refine TO.dz 12582911 (some 34) rfl rfl rfl rfl (Does.callC (cap := [.pointer (some ⟨b1, 0, none⟩)]) rfl go105 rfl (clo105_fn (putM m) (some ⟨bA, oA, none⟩) 32 c 24 b1 2 _ rfl (((hA.cons _).cons _).cons _) (by simp) (by simp) (by simp))) ?_
            rintro _ _ ⟨rfl, rfl⟩
            rw [show IntKind.i64.wrap ((get8 (putM m) 24 : Nat) : Int) = m.value from by rw [putM_value hm]; exact w_i64 (by omega) (by omega)]
            refine roK ?_
            refine TA.tk 22 16777215 rfl rfl rfl (Val.buildS pl61 ze61 rfl rfl) ?_
            refine TA.one 24 (by kernel_rfl) ?_
            refine TO.dz 33554431 none rfl rfl rfl rfl (Does.store (i := 0) rfl rfl rfl sz61 rfl rfl (by first | exact Nat.le_of_ble_eq_true rfl | decide | omega) rfl rfl) ?_
            rintro _ _ ⟨rfl, rfl⟩
            refine roK ?_
            refine TA.done (by kernel_rfl) ?_
            refine AtX.join bm ?_ (Sub.cons rfl (Sub.cons rfl (Sub.cons rfl (Sub.cons rfl (Sub.nil _))))) (fun w h => h)
            trivial
        · skip
          refine TO.dz 9830399 (some 5) rfl rfl rfl rfl (Does.alloc ze61 rfl) ?_
          rintro _ _ ⟨bm, rfl, rfl⟩
          refine roK ?_
          refine TA.one 17 (by kernel_rfl) ?_
          refine TO.dz 9961471 (some 30) rfl rfl rfl rfl (Does.callC (cap := [.pointer (some ⟨b1, 0, none⟩)]) rfl go105 rfl (clo105_fn (putM m) (some ⟨bA, oA, none⟩) 32 c 8 b1 2 _ rfl (((hA.cons _).cons _).cons _) (by simp) (by simp) (by simp))) ?_
          rintro _ _ ⟨rfl, rfl⟩
          rw [show IntKind.i64.wrap ((get8 (putM m) 8 : Nat) : Int) = m.seq from by rw [putM_seq hm]; exact w_i64 (by omega) (by omega)]
          refine roK ?_
          refine TA.one 19 (by kernel_rfl) ?_
          refine TO.dz 10485759 (some 32) rfl rfl rfl rfl (Does.callC (cap := [.pointer (some ⟨b1, 0, none⟩)]) rfl go105 rfl (clo105_fn (putM m) (some ⟨bA, oA, none⟩) 32 c 16 b1 2 _ rfl (((hA.cons _).cons _).cons _) (by simp) (by simp) (by simp))) ?_
          rintro _ _ ⟨rfl, rfl⟩
          rw [show IntKind.i64.wrap ((get8 (putM m) 16 : Nat) : Int) = m.epoch from by rw [putM_epoch hm]; exact w_i64 (by omega) (by omega)]
          refine roK ?_
          refine TA.one 21 (by kernel_rfl) ?_
          refine TO.dz 12582911 (some 34) rfl rfl rfl rfl (Does.callC (cap := [.pointer (some ⟨b1, 0, none⟩)]) rfl go105 rfl (clo105_fn (putM m) (some ⟨bA, oA, none⟩) 32 c 24 b1 2 _ rfl (((hA.cons _).cons _).cons _) (by simp) (by simp) (by simp))) ?_
          rintro _ _ ⟨rfl, rfl⟩
          rw [show IntKind.i64.wrap ((get8 (putM m) 24 : Nat) : Int) = m.value from by rw [putM_value hm]; exact w_i64 (by omega) (by omega)]
          refine roK ?_
          refine TA.tk 22 16777215 rfl rfl rfl (Val.buildS pl61 ze61 rfl rfl) ?_
          refine TA.one 24 (by kernel_rfl) ?_
          refine TO.dz 33554431 none rfl rfl rfl rfl (Does.store (i := 0) rfl rfl rfl sz61 rfl rfl (by first | exact Nat.le_of_ble_eq_true rfl | decide | omega) rfl rfl) ?_
          rintro _ _ ⟨rfl, rfl⟩
          refine roK ?_
          refine TA.done (by kernel_rfl) ?_
          refine AtX.join bm ?_ (Sub.cons rfl (Sub.cons rfl (Sub.cons rfl (Sub.cons rfl (Sub.nil _))))) (fun w h => h)
          trivial
      · skip
        refine TO.dz 9773055 (some 5) rfl rfl rfl rfl (Does.alloc ze61 rfl) ?_
        rintro _ _ ⟨bm, rfl, rfl⟩
        refine roK ?_
        refine TA.one 13 (by kernel_rfl) ?_
        refine TO.dz 9781247 (some 26) rfl rfl rfl rfl (Does.callC (cap := [.pointer (some ⟨b1, 0, none⟩)]) rfl go105 rfl (clo105_fn (putM m) (some ⟨bA, oA, none⟩) 32 c 4 b1 2 _ rfl (((hA.cons _).cons _).cons _) (by simp) (by simp) (by simp))) ?_
        rintro _ _ ⟨rfl, rfl⟩
        refine roK ?_
        refine TA.tk 14 9797631 rfl rfl rfl (Val.convI rfl iu2 in171 rfl) ?_
        refine TA.tk 15 9830399 rfl rfl rfl (Val.convI rfl iu171 in3 (r := m.gen) (by rw [putM_gen hm]; exact w_i64 (by omega) (by omega))) ?_
        refine TA.one 17 (by kernel_rfl) ?_
        refine TO.dz 9961471 (some 30) rfl rfl rfl rfl (Does.callC (cap := [.pointer (some ⟨b1, 0, none⟩)]) rfl go105 rfl (clo105_fn (putM m) (some ⟨bA, oA, none⟩) 32 c 8 b1 2 _ rfl (((hA.cons _).cons _).cons _) (by simp) (by simp) (by simp))) ?_
        rintro _ _ ⟨rfl, rfl⟩
        rw [show IntKind.i64.wrap ((get8 (putM m) 8 : Nat) : Int) = m.seq from by rw [putM_seq hm]; exact w_i64 (by omega) (by omega)]
        refine roK ?_
        refine TA.one 19 (by kernel_rfl) ?_
        refine TO.dz 10485759 (some 32) rfl rfl rfl rfl (Does.callC (cap := [.pointer (some ⟨b1, 0, none⟩)]) rfl go105 rfl (clo105_fn (putM m) (some ⟨bA, oA, none⟩) 32 c 16 b1 2 _ rfl (((hA.cons _).cons _).cons _) (by simp) (by simp) (by simp))) ?_
        rintro _ _ ⟨rfl, rfl⟩
        rw [show IntKind.i64.wrap ((get8 (putM m) 16 : Nat) : Int) = m.epoch from by rw [putM_epoch hm]; exact w_i64 (by omega) (by omega)]
        refine roK ?_
        refine TA.one 21 (by kernel_rfl) ?_
        refine TO.dz 12582911 (some 34) rfl rfl rfl rfl (Does.callC (cap := [.pointer (some ⟨b1, 0, none⟩)]) rfl go105 rfl (clo105_fn (putM m) (some ⟨bA, oA, none⟩) 32 c 24 b1 2 _ rfl (((hA.cons _).cons _).cons _) (by simp) (by simp) (by simp))) ?_
        rintro _ _ ⟨rfl, rfl⟩
        rw [show IntKind.i64.wrap ((get8 (putM m) 24 : Nat) : Int) = m.value from by rw [putM_value hm]; exact w_i64 (by omega) (by omega)]
        refine roK ?_
        refine TA.tk 22 16777215 rfl rfl rfl (Val.buildS pl61 ze61 rfl rfl) ?_
        refine TA.one 24 (by kernel_rfl) ?_
        refine TO.dz 33554431 none rfl rfl rfl rfl (Does.store (i := 0) rfl rfl rfl sz61 rfl rfl (by first | exact Nat.le_of_ble_eq_true rfl | decide | omega) rfl rfl) ?_
        rintro _ _ ⟨rfl, rfl⟩
        refine roK ?_
        refine TA.done (by kernel_rfl) ?_
        refine AtX.join bm ?_ (Sub.cons rfl (Sub.cons rfl (Sub.cons rfl (Sub.cons rfl (Sub.nil _))))) (fun w h => h)
        trivial
    · intro bm _
      refine TC.seq ?_
      refine TC.seq ?_
      refine TC.region ?_
      refine TL.val rfl rfl (Nat.le_of_ble_eq_true rfl) (Val.loadAgg 0 rfl ag61 sz61 rfl rfl rfl) ?_
      refine TL.does (some 38) rfl rfl rfl (Does.callF go38 rfl (wPut_fn m _ hm)) ?_
      rintro _ _ ⟨bB, cB, spB, rfl, hcB, rfl⟩
      refine TL.val rfl rfl (Nat.le_of_ble_eq_true rfl) (Val.move rfl) ?_
      refine TL.val rfl rfl (Nat.le_of_ble_eq_true rfl) (Val.extract rfl rfl) ?_
      refine TL.val rfl rfl (Nat.le_of_ble_eq_true rfl) (Val.extract rfl rfl) ?_
      refine TL.val rfl rfl (Nat.le_of_ble_eq_true rfl) (Val.assign rfl) ?_
      refine TL.val rfl rfl (Nat.le_of_ble_eq_true rfl) (Val.assign rfl) ?_
      refine TL.nil ?_
      refine AtX.then ?_
      refine TC.env (E' := [(1, _), (2, _), (3, _), (5, _), (6, _), (7, _)]) (Sub.cons rfl (Sub.cons rfl (Sub.cons rfl (Sub.cons rfl (Sub.cons rfl (Sub.cons rfl (Sub.nil _))))))) ?_
      refine TC.seq ?_
      refine TC.region ?_
      refine TL.val rfl rfl (Nat.le_of_ble_eq_true rfl) (Val.move rfl) ?_
      refine TL.val rfl rfl (Nat.le_of_ble_eq_true rfl) (Val.neqI rfl rfl) ?_
      refine TL.val rfl rfl (Nat.le_of_ble_eq_true rfl) (Val.move rfl) ?_
      refine TL.valYes rfl rfl (Nat.le_of_ble_eq_true rfl) rfl (Nat.le_of_ble_eq_true rfl) rfl (Val.move rfl) ?_
      refine TL.valYes rfl rfl (Nat.le_of_ble_eq_true rfl) rfl (Nat.le_of_ble_eq_true rfl) rfl (Val.load 3 rfl ag37 rfl rfl) ?_
      refine TL.doesYes (some 46) rfl rfl rfl (Nat.le_of_ble_eq_true rfl) rfl rfl (Does.callF go107 rfl (Equal_fn (putM m) (putM m) _ _ _ _ _ _ _ (rd_all (i := 0) rfl) ((((hA.cons _).cons _).cons _).cons _) (by simp) (by simp))) ?_
      rintro _ _ ⟨ge, hge, rfl, rfl⟩
      simp at hge
      subst hge
      refine TL.valYes rfl rfl (Nat.le_of_ble_eq_true rfl) rfl (Nat.le_of_ble_eq_true rfl) rfl (Val.not rfl) ?_
      refine TL.val rfl rfl (Nat.le_of_ble_eq_true rfl) (Val.pickOr rfl rfl rfl) ?_
      refine TL.nil ?_
      refine AtX.then ?_
      refine TC.env (E' := [(2, _), (3, _), (5, _), (48, _)]) (Sub.cons rfl (Sub.cons rfl (Sub.cons rfl (Sub.cons rfl (Sub.nil _))))) ?_
      first | refine TC.condP rfl (fun c2 => ?_) (fun c2 => ?_) | refine TC.condN rfl (fun c2 => ?_) (fun c2 => ?_) | refine TC.condB rfl (fun c2 => ?_) (fun c2 => ?_) | refine TC.cond rfl (fun c2 => ?_) (fun c2 => ?_)
      · skip
        (exfalso; simp at c2)
      · skip
        refine TC.env (E' := [(2, _), (3, _), (5, _)]) (Sub.cons rfl (Sub.cons rfl (Sub.cons rfl (Sub.nil _)))) ?_
        refine TC.skip ?_
        refine AtX.then ?_
        refine TC.env (E' := [(2, _), (3, _), (5, _)]) (Sub.cons rfl (Sub.cons rfl (Sub.cons rfl (Sub.nil _)))) ?_
        refine TC.seq ?_
        refine TC.region ?_
        refine TL.val rfl rfl (Nat.le_of_ble_eq_true rfl) (Val.loadAgg 1 rfl ag61 sz61 rfl rfl rfl) ?_
        refine TL.does none rfl rfl rfl (Does.store (i := 2) rfl rfl rfl sz61 rfl rfl (by first | exact Nat.le_of_ble_eq_true rfl | decide | omega) rfl rfl) ?_
        rintro _ _ ⟨rfl, rfl⟩
        refine TL.val rfl rfl (Nat.le_of_ble_eq_true rfl) (Val.assign rfl) ?_
        refine TL.nil ?_
        refine AtX.then ?_
        refine TC.env (E' := [(2, _), (3, _)]) (Sub.cons rfl (Sub.cons rfl (Sub.nil _))) ?_
        refine TC.ret2 (fn := Try.f80) (fun _ _ h => h) rfl (RV.agg (i := 2) rfl ag61 sz61 rfl rfl rfl) (RV.tmp rfl) (M' := M) (by repeat (first | exact ro_refl | exact ro_pre | refine ro_tail ?_ | refine ro_app ?_)) ?_
        exact ⟨rfl, rfl⟩

/-- quorumite/mac.From -/
theorem From_fn (l : List UInt8) (A : Option Addr) (n c : Nat) (M : Hp) (hA : RdS M A (bv l)) (hn : n = l.length) (hl : l.length = 16) : FnC Try.prog 81 #[.slice A n c] M (fun v M' => v = .tuple #[.agg #[.int .u64 (get8 l 0 : Nat), .int .u64 (get8 l 8 : Nat)], .int .i64 0] ∧ M = M') := by
  rw [hl] at hn
  subst hn
  refine FnC.intro Try.func81 rfl 24 rfl (by simp) (fun z => ?_)
  refine TC.env (E' := [(0, _)]) (Sub.cons rfl (Sub.nil _)) ?_
  refine TC.seq ?_
  refine TC.region ?_
  refine TL.does (some 2) rfl rfl rfl (Does.alloc ze73 rfl) ?_
  rintro _ _ ⟨b1, rfl, rfl⟩
  refine TL.val rfl rfl (Nat.le_of_ble_eq_true rfl) (Val.assign rfl) ?_
  refine TL.nil ?_
  refine AtX.then ?_
  refine TC.seq ?_
  refine TC.seq ?_
  refine TC.region ?_
  refine TL.val rfl rfl (Nat.le_of_ble_eq_true rfl) (Val.move rfl) ?_
  refine TL.val rfl rfl (Nat.le_of_ble_eq_true rfl) (Val.lenSl rfl rfl sl37) ?_
  refine TL.val rfl rfl (Nat.le_of_ble_eq_true rfl) (Val.neqI rfl rfl) ?_
  refine TL.nil ?_
  refine AtX.then ?_
  refine TC.env (E' := [(0, _), (2, _), (3, _), (8, _)]) (Sub.cons rfl (Sub.cons rfl (Sub.cons rfl (Sub.cons rfl (Sub.nil _))))) ?_
  first | refine TC.condP rfl (fun c1 => ?_) (fun c1 => ?_) | refine TC.condN rfl (fun c1 => ?_) (fun c1 => ?_) | refine TC.condB rfl (fun c1 => ?_) (fun c1 => ?_) | refine TC.cond rfl (fun c1 => ?_) (fun c1 => ?_)
  · skip
    exact absurd rfl c1
  · skip
    refine TC.env (E' := [(0, _), (2, _), (3, _)]) (Sub.cons rfl (Sub.cons rfl (Sub.cons rfl (Sub.nil _)))) ?_
    refine TC.skip ?_
    refine AtX.then ?_
    refine TC.env (E' := [(0, _), (2, _), (3, _)]) (Sub.cons rfl (Sub.cons rfl (Sub.cons rfl (Sub.nil _)))) ?_
    refine TC.seq ?_
    refine TC.region ?_
    refine TL.does (some 4) rfl rfl rfl (Does.alloc ze73 rfl) ?_
    rintro _ _ ⟨b2, rfl, rfl⟩
    refine TL.nil ?_
    refine AtX.then ?_
    refine TC.env (E' := [(0, _), (2, _), (3, _), (4, _)]) (Sub.cons rfl (Sub.cons rfl (Sub.cons rfl (Sub.cons rfl (Sub.nil _))))) ?_
    refine TC.seq ?_
    refine TC.seq ?_
    refine TC.region ?_
    refine TL.val rfl rfl (Nat.le_of_ble_eq_true rfl) (Val.move rfl) ?_
    refine TL.nil ?_
    refine AtX.then ?_
    refine TC.env (E' := [(0, _), (2, _), (3, _), (4, _), (10, _)]) (Sub.cons rfl (Sub.cons rfl (Sub.cons rfl (Sub.cons rfl (Sub.cons rfl (Sub.nil _)))))) ?_
    refine TC.block ?_
    refine TC.loop (ι := Nat) (fun k => [(0, .slice A 16 c), (2, .pointer (some ⟨b1, 0, none⟩)), (3, .int .i64 0), (4, .pointer (some ⟨b2, 0, none⟩)), (10, .int .i64 (k : Nat))]) (fun k => (b2, .cells (fR l k).toArray 73 (0, 0)) :: (b1, .cells #[.int .u64 0, .int .u64 0] 73 (0, 0)) :: M) (fun k => k ≤ 2) (fun k => 2 - k) 0 ?_ (Sub.cons rfl (Sub.cons rfl (Sub.cons rfl (Sub.cons rfl (Sub.cons rfl (Sub.nil _)))))) (fun w h => by rw [fR_0]; exact h) ?_
    · exact Nat.zero_le _
    intro k hk
    refine TC.seq ?_
    refine TC.region ?_
    refine TL.val rfl rfl (Nat.le_of_ble_eq_true rfl) (Val.lss rfl rfl) ?_
    refine TL.nil ?_
    refine AtX.then ?_
    refine TC.seq ?_
    first | refine TC.condP rfl (fun c2 => ?_) (fun c2 => ?_) | refine TC.condN rfl (fun c2 => ?_) (fun c2 => ?_) | refine TC.condB rfl (fun c2 => ?_) (fun c2 => ?_) | refine TC.cond rfl (fun c2 => ?_) (fun c2 => ?_)
    · skip
      refine TC.skip ?_
      refine AtX.then ?_
      refine TC.seq ?_
      refine TC.block ?_
      refine TC.seq ?_
      refine TC.region ?_
      refine TL.val rfl rfl (Nat.le_of_ble_eq_true rfl) (Val.move rfl) ?_
      refine TL.val rfl rfl (Nat.le_of_ble_eq_true rfl) (Val.assign rfl) ?_
      refine TL.nil ?_
      refine AtX.then ?_
      have hk2 : k < 2 := by omega
      refine TC.region ?_
      refine TL.val rfl rfl (Nat.le_of_ble_eq_true rfl) (Val.move rfl) ?_
      refine TL.val rfl rfl (Nat.le_of_ble_eq_true rfl) (Val.move rfl) ?_
      refine TL.val rfl rfl (Nat.le_of_ble_eq_true rfl) (Val.move rfl) ?_
      refine TL.val rfl rfl (Nat.le_of_ble_eq_true rfl) (Val.mul rfl rfl (r := ((8 * k : Nat) : Int)) (by rw [w_i64 (by omega) (by omega)]; push_cast; rfl)) ?_
      refine TL.does (some 18) rfl rfl rfl (Does.callF go106 rfl (sipGet_fn l _ _ _ (8 * k) _ ((hA.cons _).cons _) hl.symm (by omega) (by omega))) ?_
      rintro _ _ ⟨rfl, rfl⟩
      refine TL.val rfl rfl (Nat.le_of_ble_eq_true rfl) (Val.move rfl) ?_
      refine TL.val rfl rfl (Nat.le_of_ble_eq_true rfl) (Val.extract rfl rfl) ?_
      refine TL.val rfl rfl (Nat.le_of_ble_eq_true rfl) (Val.extract rfl rfl) ?_
      refine TL.val rfl rfl (Nat.le_of_ble_eq_true rfl) (Val.indexAddrA (i := k) (r := k) rfl rfl ar73 sz24 rfl hk2 (by omega)) ?_
      refine TL.does none rfl rfl rfl (Does.store (i := 0) rfl rfl rfl sz24 rfl rfl (by simp [fR]; omega) (fR_splice (l := l) hk2) rfl) ?_
      rintro _ _ ⟨rfl, rfl⟩
      refine TL.nil ?_
      refine AtX.blk ?_
      refine AtX.then ?_
      refine TC.env (E' := [(0, _), (2, _), (3, _), (4, _), (5, _), (10, _), (11, _), (12, _), (13, _), (14, _), (15, _), (16, _), (17, _), (18, _), (19, _), (21, _)]) (Sub.cons rfl (Sub.cons rfl (Sub.cons rfl (Sub.cons rfl (Sub.cons rfl (Sub.cons rfl (Sub.cons rfl (Sub.cons rfl (Sub.cons rfl (Sub.cons rfl (Sub.cons rfl (Sub.cons rfl (Sub.cons rfl (Sub.cons rfl (Sub.cons rfl (Sub.cons rfl (Sub.nil _))))))))))))))))) ?_
      refine TC.region ?_
      refine TL.val rfl rfl (Nat.le_of_ble_eq_true rfl) (Val.add rfl rfl (w_i64 (by omega) (by omega))) ?_
      refine TL.val rfl rfl (Nat.le_of_ble_eq_true rfl) (Val.move rfl) ?_
      refine TL.nil ?_
      refine AtX.round (k + 1) ?_ ?_ (Sub.cons rfl (Sub.cons rfl (Sub.cons rfl (Sub.cons rfl (Sub.cons rfl (Sub.nil _)))))) (fun _ h => h)
      · omega
      · omega
    · skip
      refine TC.exit ?_
      refine AtX.seqX ?_
      refine AtX.seqX ?_
      refine AtX.hit ?_
      refine AtX.then ?_
      refine TC.env (E' := [(2, _), (3, _), (4, _)]) (Sub.cons rfl (Sub.cons rfl (Sub.cons rfl (Sub.nil _)))) ?_
      refine TC.seq ?_
      have h2 : k = 2 := by omega
      subst h2
      rw [fR_2]
      refine TC.region ?_
      refine TL.val rfl rfl (Nat.le_of_ble_eq_true rfl) (Val.loadAgg 0 rfl ag73 sz73 rfl rfl rfl) ?_
      refine TL.does none rfl rfl rfl (Does.store (i := 1) rfl rfl rfl sz73 rfl rfl (by first | exact Nat.le_of_ble_eq_true rfl | decide | omega) rfl rfl) ?_
      rintro _ _ ⟨rfl, rfl⟩
      refine TL.val rfl rfl (Nat.le_of_ble_eq_true rfl) (Val.assign rfl) ?_
      refine TL.nil ?_
      refine AtX.then ?_
      refine TC.env (E' := [(2, _), (3, _)]) (Sub.cons rfl (Sub.cons rfl (Sub.nil _))) ?_
      refine TC.ret2 (fn := Try.f81) (fun _ _ h => h) rfl (RV.agg (i := 1) rfl ag73 sz73 rfl rfl rfl) (RV.tmp rfl) (M' := M) (by repeat (first | exact ro_refl | exact ro_pre | refine ro_tail ?_ | refine ro_app ?_)) ?_
      exact ⟨rfl, rfl⟩

/-- quorumite/mac.Same -/
theorem Same_fn (s t : K2) (M : Hp) : FnC Try.prog 39 #[.agg #[.int .u64 s.a, .int .u64 s.b], .agg #[.int .u64 t.a, .int .u64 t.b]] M (fun v M' => v = .bool (decide (bitsOf .or .u64 (xor64 s.a t.a) (xor64 s.b t.b) = 0)) ∧ M = M') := by
  refine FnC.intro Try.func39 rfl 17 rfl (by simp) (fun z => ?_)
  refine TC.env (E' := [(0, _), (1, _)]) (Sub.cons rfl (Sub.cons rfl (Sub.nil _))) ?_
  refine TC.seq ?_
  refine TC.region ?_
  refine TL.does (some 2) rfl rfl rfl (Does.box rfl rfl) ?_
  rintro _ _ ⟨b1, rfl, rfl⟩
  refine TL.does (some 3) rfl rfl rfl (Does.box rfl rfl) ?_
  rintro _ _ ⟨b2, rfl, rfl⟩
  refine TL.val rfl rfl (Nat.le_of_ble_eq_true rfl) (Val.assign rfl) ?_
  refine TL.nil ?_
  refine AtX.then ?_
  refine TC.env (E' := [(2, _), (3, _), (4, _)]) (Sub.cons rfl (Sub.cons rfl (Sub.cons rfl (Sub.nil _)))) ?_
  refine TC.seq ?_
  refine TC.region ?_
  refine TL.val rfl rfl (Nat.le_of_ble_eq_true rfl) (Val.indexAddrA (i := 0) rfl rfl ar73 sz24 rfl (by first | decide | omega) rfl) ?_
  refine TL.val rfl rfl (Nat.le_of_ble_eq_true rfl) (Val.load 1 rfl ag24 rfl rfl) ?_
  refine TL.val rfl rfl (Nat.le_of_ble_eq_true rfl) (Val.indexAddrA (i := 0) rfl rfl ar73 sz24 rfl (by first | decide | omega) rfl) ?_
  refine TL.val rfl rfl (Nat.le_of_ble_eq_true rfl) (Val.load 0 rfl ag24 rfl rfl) ?_
  refine TL.val rfl rfl (Nat.le_of_ble_eq_true rfl) (Val.xor rfl rfl rfl) ?_
  refine TL.val rfl rfl (Nat.le_of_ble_eq_true rfl) (Val.indexAddrA (i := 1) rfl rfl ar73 sz24 rfl (by first | decide | omega) rfl) ?_
  refine TL.val rfl rfl (Nat.le_of_ble_eq_true rfl) (Val.load 1 rfl ag24 rfl rfl) ?_
  refine TL.val rfl rfl (Nat.le_of_ble_eq_true rfl) (Val.indexAddrA (i := 1) rfl rfl ar73 sz24 rfl (by first | decide | omega) rfl) ?_
  refine TL.val rfl rfl (Nat.le_of_ble_eq_true rfl) (Val.load 0 rfl ag24 rfl rfl) ?_
  refine TL.val rfl rfl (Nat.le_of_ble_eq_true rfl) (Val.xor rfl rfl rfl) ?_
  refine TL.val rfl rfl (Nat.le_of_ble_eq_true rfl) (Val.or rfl rfl rfl) ?_
  refine TL.val rfl rfl (Nat.le_of_ble_eq_true rfl) (Val.eqlI rfl rfl) ?_
  refine TL.val rfl rfl (Nat.le_of_ble_eq_true rfl) (Val.assign rfl) ?_
  refine TL.nil ?_
  refine AtX.then ?_
  refine TC.env (E' := [(4, _)]) (Sub.cons rfl (Sub.nil _)) ?_
  refine TC.ret1 (fn := Try.f39) (fun _ _ h => h) rfl (RV.tmp rfl) (M' := M) (by repeat (first | exact ro_refl | exact ro_pre | refine ro_tail ?_ | refine ro_app ?_)) ?_
  exact ⟨rfl, rfl⟩

end Go.Proofs.Ytphoapajlcaoeaa
/- walks -/
set_option linter.unusedVariables false
set_option linter.unusedSimpArgs false
set_option maxRecDepth 100000
set_option maxHeartbeats 4000000
namespace Go.Proofs.Ytphoapajlcaoeaa
open Go Go.X
theorem perm_4 {a b c d : Nat × Obj} {M : Hp} : (a :: b :: c :: d :: M).Perm (c :: d :: a :: b :: M) := by
  have h : ([a, b] ++ ([c, d] ++ M)).Perm ([c, d] ++ ([a, b] ++ M)) := by
    rw [← List.append_assoc, ← List.append_assoc]
    exact List.perm_append_comm.append_right M
  exact h
/-- quorumite/wire.Split -/
theorem Split_fn (m : Ms) (tl : List UInt8) (A : Option Addr) (n c : Nat) (M : Hp) (hA : RdS M A (bv (putM m ++ tl))) (hn : n = 48) (hc : 48 ≤ c) (ht : tl.length = 16) (hm : mayM m = true) : FnC Try.prog 42 #[.slice A n c] M (fun v M' => ∃ σ, v = .tuple #[.agg #[.int .i64 m.kind, .int .i64 m.who, .int .i64 m.gen, .int .i64 m.seq, .int .i64 m.epoch, .int .i64 m.value, .int .i64 m.metric], .slice (slA σ) 32 (slC σ), .agg #[.int .u64 (get8 tl 0 : Nat), .int .u64 (get8 tl 8 : Nat)], .int .i64 0] ∧ slOk σ 1 32 (bv (putM m)) ∧ M' = slH σ 5 (bv (putM m)) ++ M) := by
  subst hn
  obtain ⟨bA, oA, rfl, hR⟩ := RdS.get hA (by simp; omega)
  have hA1 : RdS M (some ⟨bA, oA, none⟩) (bv (putM m)) := by have h := rdS_takeB hA 32; rw [List.take_left' (by simp)] at h; exact h
  have hA2 : RdS M (some ⟨bA, oA + 32, none⟩) (bv tl) := by have h := hR.drop 32; rw [← bv_drop, List.drop_left' (by simp)] at h; exact .some h
  refine FnC.intro Try.func42 rfl 37 rfl (by simp) (fun z => ?_)
  refine TC.env (E' := [(0, _)]) (Sub.cons rfl (Sub.nil _)) ?_
  refine TC.seq ?_
  refine TC.region ?_
  refine TL.does (some 2) rfl rfl rfl (Does.alloc ze61 rfl) ?_
  rintro _ _ ⟨b1, rfl, rfl⟩
  refine TL.val rfl rfl (Nat.le_of_ble_eq_true rfl) (Val.assign rfl) ?_
  refine TL.does (some 4) rfl rfl rfl (Does.alloc ze73 rfl) ?_
  rintro _ _ ⟨b2, rfl, rfl⟩
  refine TL.val rfl rfl (Nat.le_of_ble_eq_true rfl) (Val.assign rfl) ?_
  refine TL.nil ?_
  refine AtX.then ?_
  refine TC.seq ?_
  refine TC.seq ?_
  refine TC.region ?_
  refine TL.val rfl rfl (Nat.le_of_ble_eq_true rfl) (Val.move rfl) ?_
  refine TL.val rfl rfl (Nat.le_of_ble_eq_true rfl) (Val.lenSl rfl rfl sl37) ?_
  refine TL.val rfl rfl (Nat.le_of_ble_eq_true rfl) (Val.neqI rfl rfl) ?_
  refine TL.nil ?_
  refine AtX.then ?_
  refine TC.env (E' := [(0, _), (2, _), (3, _), (4, _), (5, _), (12, _)]) (Sub.cons rfl (Sub.cons rfl (Sub.cons rfl (Sub.cons rfl (Sub.cons rfl (Sub.cons rfl (Sub.nil _))))))) ?_
  first | refine TC.condP rfl (fun c1 => ?_) (fun c1 => ?_) | refine TC.condN rfl (fun c1 => ?_) (fun c1 => ?_) | refine TC.condB rfl (fun c1 => ?_) (fun c1 => ?_) | refine TC.cond rfl (fun c1 => ?_) (fun c1 => ?_)
  · skip
    exact absurd rfl c1
  · skip
    refine TC.env (E' := [(0, _), (2, _), (3, _), (4, _), (5, _)]) (Sub.cons rfl (Sub.cons rfl (Sub.cons rfl (Sub.cons rfl (Sub.cons rfl (Sub.nil _)))))) ?_
    refine TC.skip ?_
    refine AtX.then ?_
    refine TC.env (E' := [(0, _), (2, _), (3, _), (4, _), (5, _)]) (Sub.cons rfl (Sub.cons rfl (Sub.cons rfl (Sub.cons rfl (Sub.cons rfl (Sub.nil _)))))) ?_
    refine TC.seq ?_
    refine TC.region ?_
    refine TL.val rfl rfl (Nat.le_of_ble_eq_true rfl) (Val.move rfl) ?_
    refine TL.val rfl rfl (Nat.le_of_ble_eq_true rfl) (Val.sliceTo (j := 32) rfl sl37 sz5 rfl rfl (by omega)) ?_
    refine TL.does (some 18) rfl rfl rfl (Does.callF go80 rfl (wGet_fn m _ _ _ _ ((hA1.cons _).cons _) rfl hm)) ?_
    rintro _ _ ⟨rfl, rfl⟩
    refine TL.val rfl rfl (Nat.le_of_ble_eq_true rfl) (Val.move rfl) ?_
    refine TL.val rfl rfl (Nat.le_of_ble_eq_true rfl) (Val.extract rfl rfl) ?_
    refine TL.val rfl rfl (Nat.le_of_ble_eq_true rfl) (Val.extract rfl rfl) ?_
    refine TL.does (some 6) rfl rfl rfl (Does.alloc ze61 rfl) ?_
    rintro _ _ ⟨b6, rfl, rfl⟩
    refine TL.does none rfl rfl rfl (Does.store (i := 0) rfl rfl rfl sz61 rfl rfl (by first | exact Nat.le_of_ble_eq_true rfl | decide | omega) rfl rfl) ?_
    rintro _ _ ⟨rfl, rfl⟩
    refine TL.val rfl rfl (Nat.le_of_ble_eq_true rfl) (Val.assign rfl) ?_
    refine TL.nil ?_
    refine AtX.then ?_
    refine TC.env (E' := [(0, _), (2, _), (3, _), (4, _), (5, _), (6, _), (7, _)]) (Sub.cons rfl (Sub.cons rfl (Sub.cons rfl (Sub.cons rfl (Sub.cons rfl (Sub.cons rfl (Sub.cons rfl (Sub.nil _)))))))) ?_
    refine TC.seq ?_
    refine TC.seq ?_
    refine TC.region ?_
    refine TL.val rfl rfl (Nat.le_of_ble_eq_true rfl) (Val.move rfl) ?_
    refine TL.val rfl rfl (Nat.le_of_ble_eq_true rfl) (Val.neqI rfl rfl) ?_
    refine TL.nil ?_
    refine AtX.then ?_
    refine TC.env (E' := [(0, _), (2, _), (3, _), (4, _), (5, _), (6, _), (7, _), (22, _)]) (Sub.cons rfl (Sub.cons rfl (Sub.cons rfl (Sub.cons rfl (Sub.cons rfl (Sub.cons rfl (Sub.cons rfl (Sub.cons rfl (Sub.nil _))))))))) ?_
    first | refine TC.condP rfl (fun c2 => ?_) (fun c2 => ?_) | refine TC.condN rfl (fun c2 => ?_) (fun c2 => ?_) | refine TC.condB rfl (fun c2 => ?_) (fun c2 => ?_) | refine TC.cond rfl (fun c2 => ?_) (fun c2 => ?_)
    · skip
      exact absurd rfl c2
    · skip
      refine TC.env (E' := [(0, _), (2, _), (3, _), (4, _), (5, _), (6, _)]) (Sub.cons rfl (Sub.cons rfl (Sub.cons rfl (Sub.cons rfl (Sub.cons rfl (Sub.cons rfl (Sub.nil _))))))) ?_
      refine TC.skip ?_
      refine AtX.then ?_
      refine TC.env (E' := [(0, _), (2, _), (3, _), (4, _), (5, _), (6, _)]) (Sub.cons rfl (Sub.cons rfl (Sub.cons rfl (Sub.cons rfl (Sub.cons rfl (Sub.cons rfl (Sub.nil _))))))) ?_
      refine TC.seq ?_
      refine TC.region ?_
      refine TL.val rfl rfl (Nat.le_of_ble_eq_true rfl) (Val.move rfl) ?_
      refine TL.val rfl rfl (Nat.le_of_ble_eq_true rfl) (Val.sliceAt (i := 32) (j := 48) rfl sl37 sz5 rfl rfl rfl rfl (by omega) (by omega) (by omega) rfl) ?_
      refine TL.does (some 29) rfl rfl rfl (Does.callF go81 rfl (From_fn tl _ _ _ _ (((hA2.cons _).cons _).cons _) ht.symm ht)) ?_
      rintro _ _ ⟨rfl, rfl⟩
      refine TL.val rfl rfl (Nat.le_of_ble_eq_true rfl) (Val.move rfl) ?_
      refine TL.val rfl rfl (Nat.le_of_ble_eq_true rfl) (Val.extract rfl rfl) ?_
      refine TL.val rfl rfl (Nat.le_of_ble_eq_true rfl) (Val.extract rfl rfl) ?_
      refine TL.does (some 8) rfl rfl rfl (Does.alloc ze73 rfl) ?_
      rintro _ _ ⟨b8_, rfl, rfl⟩
      refine TL.does none rfl rfl rfl (Does.store (i := 0) rfl rfl rfl sz73 rfl rfl (by first | exact Nat.le_of_ble_eq_true rfl | decide | omega) rfl rfl) ?_
      rintro _ _ ⟨rfl, rfl⟩
      refine TL.val rfl rfl (Nat.le_of_ble_eq_true rfl) (Val.assign rfl) ?_
      refine TL.nil ?_
      refine AtX.then ?_
      refine TC.env (E' := [(0, _), (2, _), (3, _), (4, _), (5, _), (6, _), (8, _)]) (Sub.cons rfl (Sub.cons rfl (Sub.cons rfl (Sub.cons rfl (Sub.cons rfl (Sub.cons rfl (Sub.cons rfl (Sub.nil _)))))))) ?_
      refine TC.seq ?_
      refine TC.heap (M' := (b2, .cells #[.int .u64 0, .int .u64 0] 73 (0, 0)) :: (b1, .cells #[.int .i64 0, .int .i64 0, .int .i64 0, .int .i64 0, .int .i64 0, .int .i64 0, .int .i64 0] 61 (0, 0)) :: (b8_, .cells #[.int .u64 (get8 tl 0 : Nat), .int .u64 (get8 tl 8 : Nat)] 73 (0, 0)) :: (b6, .cells #[.int .i64 m.kind, .int .i64 m.who, .int .i64 m.gen, .int .i64 m.seq, .int .i64 m.epoch, .int .i64 m.value, .int .i64 m.metric] 61 (0, 0)) :: M) (fun w h => h.perm (perm_4)) ?_
      refine TC.drawL ((b8_, .cells #[.int .u64 (get8 tl 0 : Nat), .int .u64 (get8 tl 8 : Nat)] 73 (0, 0)) :: (b6, .cells #[.int .i64 m.kind, .int .i64 m.who, .int .i64 m.gen, .int .i64 m.seq, .int .i64 m.epoch, .int .i64 m.value, .int .i64 m.metric] 61 (0, 0)) :: M) mixed 9 ?_
      refine TA.tk 0 1 rfl rfl rfl (Val.loadAgg 1 rfl ag61 sz61 rfl rfl rfl) ?_
      refine TA.tk 1 3 rfl rfl rfl (Val.move rfl) ?_
      refine TA.tk 2 7 rfl rfl rfl (Val.sliceTo (j := 32) rfl sl37 sz5 rfl rfl (by omega)) ?_
      refine TA.tk 4 23 rfl rfl rfl (Val.loadAgg 0 rfl ag73 sz73 rfl rfl rfl) ?_
      refine TA.one 3 (by kernel_rfl) ?_
      refine TO.dz 31 (some 35) rfl rfl rfl rfl (Does.callF go82 rfl (Clone_fn (putM m) ⟨bA, oA, none⟩ _ _ _ ((((hA1.cons _).cons _).cons _).cons _) (by simp) (by simp))) ?_
      rintro _ _ ⟨σ, rfl, hok, rfl⟩
      rw [putM_len] at hok ⊢
      obtain ⟨bc, cc, spc, rfl, hcc⟩ := hok.some (by omega)
      refine roK ?_
      refine TA.one 5 (by kernel_rfl) ?_
      refine TO.dz 63 none rfl rfl rfl rfl (Does.store (i := 2) rfl rfl rfl sz61 rfl rfl (by first | exact Nat.le_of_ble_eq_true rfl | decide | omega) rfl rfl) ?_
      rintro _ _ ⟨rfl, rfl⟩
      refine roK ?_
      refine TA.tk 6 127 rfl rfl rfl (Val.assign rfl) ?_
      refine TA.one 7 (by kernel_rfl) ?_
      refine TO.dz 255 none rfl rfl rfl rfl (Does.store (i := 1) rfl rfl rfl sz73 rfl rfl (by first | exact Nat.le_of_ble_eq_true rfl | decide | omega) rfl rfl) ?_
      rintro _ _ ⟨rfl, rfl⟩
      refine roK ?_
      refine TA.tk 8 511 rfl rfl rfl (Val.assign rfl) ?_
      refine TA.done (by kernel_rfl) ?_
      refine AtX.then ?_
      refine TC.env (E' := [(2, _), (3, _), (4, _), (5, _)]) (Sub.cons rfl (Sub.cons rfl (Sub.cons rfl (Sub.cons rfl (Sub.nil _))))) ?_
      refine TC.ret4 (fn := Try.f42) (fun _ _ h => h) rfl (RV.agg (i := 2) rfl ag61 sz61 rfl rfl rfl) (RV.tmp rfl) (RV.agg (i := 1) rfl ag73 sz73 rfl rfl rfl) (RV.tmp rfl) (M' := (bc, row 5 (bv (putM m) ++ spc)) :: M) (fun w h => ro_del 1 rfl w (ro_del 1 rfl w (ro_del 1 rfl w (ro_del 1 rfl w h)))) ?_
      exact ⟨some (bc, cc, spc), rfl, hok, rfl⟩

end Go.Proofs.Ytphoapajlcaoeaa
/- walks -/
set_option linter.unusedVariables false
set_option linter.unusedSimpArgs false
set_option maxRecDepth 100000
set_option maxHeartbeats 4000000
namespace Go.Proofs.Ytphoapajlcaoeaa
open Go Go.X
structure On where
  gen : Int
  since : Int
abbrev On.cs (x : On) : List Value := [.int .i64 x.gen, .int .i64 x.since]
theorem On.cs_len (x : On) : x.cs.length = 2 := rfl
theorem zrep_on (n : Nat) : zrep (Value.agg #[.int .i64 0, .int .i64 0]).cells.toList n = (List.replicate n (⟨0, 0⟩ : On)).flatMap On.cs := by
  induction n with
  | zero => rfl
  | succ n ih =>
    simp only [zrep, ih, List.replicate_succ, List.flatMap_cons]
    rfl
abbrev ringO (b : Nat) (s : Int) (lb n : Nat) (gr asked : Int) : Nat × Obj := (b, .cells #[.int .u64 s, .slice (some ⟨lb, 0, none⟩) n n, .int .i64 gr, .int .i64 asked] 152 (0, 0))
abbrev repO (b : Nat) (w top bits ref : Int) : Nat × Obj := (b, .cells #[.int .i64 w, .int .i64 top, .int .u64 bits, .int .i64 ref] 154 (0, 0))
/-- quorumite/ring.New -/
theorem rNew_fn (s : Int) (n : Nat) (gr : Int) (M : Hp) (hn : 1 ≤ n ∧ n ≤ 16) (hg : 1 ≤ gr ∧ gr ≤ 100) : FnC Try.prog 60 #[.int .u64 s, .int .i64 (n : Nat), .int .i64 gr] M (fun v M' => ∃ b lb, v = .pointer (some ⟨b, 0, none⟩) ∧ M' = ringO b s lb n gr 0 :: (lb, row 161 ((List.replicate n (⟨0, 0⟩ : On)).flatMap On.cs)) :: M) := by
  refine FnC.intro Try.func60 rfl 27 rfl (by simp) (fun z => ?_)
  refine TC.env (E' := [(0, _), (1, _), (2, _)]) (Sub.cons rfl (Sub.cons rfl (Sub.cons rfl (Sub.nil _)))) ?_
  refine TC.seq ?_
  refine TC.region ?_
  refine TL.val rfl rfl (Nat.le_of_ble_eq_true rfl) (Val.assign rfl) ?_
  refine TL.nil ?_
  refine AtX.then ?_
  refine TC.seq ?_
  refine TC.seq ?_
  refine TC.region ?_
  refine TL.val rfl rfl (Nat.le_of_ble_eq_true rfl) (Val.move rfl) ?_
  refine TL.val rfl rfl (Nat.le_of_ble_eq_true rfl) (Val.lss rfl rfl) ?_
  refine TL.val rfl rfl (Nat.le_of_ble_eq_true rfl) (Val.move rfl) ?_
  refine TL.gen (fun g1 hg1 => ?_)
  refine TL.gval rfl rfl (Nat.le_of_ble_eq_true rfl) rfl (Nat.le_of_ble_eq_true rfl) rfl (fun hg => by subst hg; exact (Val.move rfl)) ?_
  refine TL.gval rfl rfl (Nat.le_of_ble_eq_true rfl) rfl (Nat.le_of_ble_eq_true rfl) rfl (fun hg => by subst hg; exact (Val.gtr rfl rfl)) ?_
  refine TL.val rfl rfl (Nat.le_of_ble_eq_true rfl) (Val.pickOr rfl rfl rfl) ?_
  refine TL.val rfl rfl (Nat.le_of_ble_eq_true rfl) (Val.move rfl) ?_
  refine TL.gen (fun g2 hg2 => ?_)
  refine TL.gval rfl rfl (Nat.le_of_ble_eq_true rfl) rfl (Nat.le_of_ble_eq_true rfl) rfl (fun hg => by subst hg; exact (Val.move rfl)) ?_
  refine TL.gval rfl rfl (Nat.le_of_ble_eq_true rfl) rfl (Nat.le_of_ble_eq_true rfl) rfl (fun hg => by subst hg; exact (Val.lss rfl rfl)) ?_
  refine TL.val rfl rfl (Nat.le_of_ble_eq_true rfl) (Val.pickOr rfl rfl rfl) ?_
  refine TL.val rfl rfl (Nat.le_of_ble_eq_true rfl) (Val.move rfl) ?_
  refine TL.gen (fun g3 hg3 => ?_)
  refine TL.gval rfl rfl (Nat.le_of_ble_eq_true rfl) rfl (Nat.le_of_ble_eq_true rfl) rfl (fun hg => by subst hg; exact (Val.move rfl)) ?_
  refine TL.gval rfl rfl (Nat.le_of_ble_eq_true rfl) rfl (Nat.le_of_ble_eq_true rfl) rfl (fun hg => by subst hg; exact (Val.gtr rfl rfl)) ?_
  refine TL.val rfl rfl (Nat.le_of_ble_eq_true rfl) (Val.pickOr rfl rfl rfl) ?_
  refine TL.nil ?_
  refine AtX.then ?_
  refine TC.env (E' := [(0, _), (1, _), (2, _), (6, _), (20, _)]) (Sub.cons rfl (Sub.cons rfl (Sub.cons rfl (Sub.cons rfl (Sub.cons rfl (Sub.nil _)))))) ?_
  first | refine TC.condP rfl (fun c1 => ?_) (fun c1 => ?_) | refine TC.condN rfl (fun c1 => ?_) (fun c1 => ?_) | refine TC.condB rfl (fun c1 => ?_) (fun c1 => ?_) | refine TC.cond rfl (fun c1 => ?_) (fun c1 => ?_)
  · skip
    (exfalso; grind)
  · skip
    refine TC.env (E' := [(0, _), (1, _), (2, _), (6, _)]) (Sub.cons rfl (Sub.cons rfl (Sub.cons rfl (Sub.cons rfl (Sub.nil _))))) ?_
    refine TC.skip ?_
    refine AtX.then ?_
    refine TC.env (E' := [(0, _), (1, _), (2, _), (6, _)]) (Sub.cons rfl (Sub.cons rfl (Sub.cons rfl (Sub.cons rfl (Sub.nil _))))) ?_
    refine TC.seq ?_
    refine TC.region ?_
    refine TL.val rfl rfl (Nat.le_of_ble_eq_true rfl) (Val.move rfl) ?_
    refine TL.val rfl rfl (Nat.le_of_ble_eq_true rfl) (Val.move rfl) ?_
    refine TL.does (some 23) rfl rfl rfl (Does.makeSlice (n := n) (c := n) rfl rfl sl150 sz161 by161 ze161 rfl rfl rfl (by omega) (by omega) (by omega)) ?_
    rintro _ _ ⟨bl4, rfl, rfl⟩
    rw [show zrep (Value.agg #[.int .i64 0, .int .i64 0]).cells.toList n = (List.replicate n (⟨0, 0⟩ : On)).flatMap On.cs from zrep_on n]
    refine TL.val rfl rfl (Nat.le_of_ble_eq_true rfl) (Val.move rfl) ?_
    refine TL.val rfl rfl (Nat.le_of_ble_eq_true rfl) (Val.buildS (cs := [.int .u64 s, .slice (some ⟨bl4, 0, none⟩) n n, .int .i64 gr, .int .i64 0]) pl152 ze152 rfl rfl) ?_
    refine TL.does (some 26) rfl rfl rfl (Does.box rfl rfl) ?_
    rintro _ _ ⟨b4, rfl, rfl⟩
    refine TL.val rfl rfl (Nat.le_of_ble_eq_true rfl) (Val.assign rfl) ?_
    refine TL.nil ?_
    refine AtX.then ?_
    refine TC.env (E' := [(6, _)]) (Sub.cons rfl (Sub.nil _)) ?_
    refine TC.ret1 (fn := Try.f60) (fun _ _ h => h) rfl (RV.tmp rfl) (fun _ h => h) ?_
    exact ⟨_, bl4, rfl, rfl⟩

/-- quorumite/replay.New -/
theorem pNew_fn (w : Int) (M : Hp) (hw : 1 ≤ w ∧ w ≤ 64) : FnC Try.prog 61 #[.int .i64 w] M (fun v M' => ∃ b, v = .pointer (some ⟨b, 0, none⟩) ∧ M' = repO b w 0 0 0 :: M) := by
  refine FnC.intro Try.func61 rfl 12 rfl (by simp) (fun z => ?_)
  refine TC.env (E' := [(0, _)]) (Sub.cons rfl (Sub.nil _)) ?_
  refine TC.seq ?_
  refine TC.region ?_
  refine TL.val rfl rfl (Nat.le_of_ble_eq_true rfl) (Val.assign rfl) ?_
  refine TL.nil ?_
  refine AtX.then ?_
  refine TC.seq ?_
  refine TC.seq ?_
  refine TC.region ?_
  refine TL.val rfl rfl (Nat.le_of_ble_eq_true rfl) (Val.move rfl) ?_
  refine TL.val rfl rfl (Nat.le_of_ble_eq_true rfl) (Val.lss rfl rfl) ?_
  refine TL.val rfl rfl (Nat.le_of_ble_eq_true rfl) (Val.move rfl) ?_
  refine TL.gen (fun g1 hg1 => ?_)
  refine TL.gval rfl rfl (Nat.le_of_ble_eq_true rfl) rfl (Nat.le_of_ble_eq_true rfl) rfl (fun hg => by subst hg; exact (Val.move rfl)) ?_
  refine TL.gval rfl rfl (Nat.le_of_ble_eq_true rfl) rfl (Nat.le_of_ble_eq_true rfl) rfl (fun hg => by subst hg; exact (Val.gtr rfl rfl)) ?_
  refine TL.val rfl rfl (Nat.le_of_ble_eq_true rfl) (Val.pickOr rfl rfl rfl) ?_
  refine TL.nil ?_
  refine AtX.then ?_
  refine TC.env (E' := [(0, _), (2, _), (8, _)]) (Sub.cons rfl (Sub.cons rfl (Sub.cons rfl (Sub.nil _)))) ?_
  first | refine TC.condP rfl (fun c1 => ?_) (fun c1 => ?_) | refine TC.condN rfl (fun c1 => ?_) (fun c1 => ?_) | refine TC.condB rfl (fun c1 => ?_) (fun c1 => ?_) | refine TC.cond rfl (fun c1 => ?_) (fun c1 => ?_)
  · skip
    (exfalso; grind)
  · skip
    refine TC.env (E' := [(0, _), (2, _)]) (Sub.cons rfl (Sub.cons rfl (Sub.nil _))) ?_
    refine TC.skip ?_
    refine AtX.then ?_
    refine TC.env (E' := [(0, _), (2, _)]) (Sub.cons rfl (Sub.cons rfl (Sub.nil _))) ?_
    refine TC.seq ?_
    refine TC.region ?_
    refine TL.val rfl rfl (Nat.le_of_ble_eq_true rfl) (Val.move rfl) ?_
    refine TL.val rfl rfl (Nat.le_of_ble_eq_true rfl) (Val.buildS pl154 ze154 rfl rfl) ?_
    refine TL.does (some 11) rfl rfl rfl (Does.box rfl rfl) ?_
    rintro _ _ ⟨b2, rfl, rfl⟩
    refine TL.val rfl rfl (Nat.le_of_ble_eq_true rfl) (Val.assign rfl) ?_
    refine TL.nil ?_
    refine AtX.then ?_
    refine TC.env (E' := [(2, _)]) (Sub.cons rfl (Sub.nil _)) ?_
    refine TC.ret1 (fn := Try.f61) (fun _ _ h => h) rfl (RV.tmp rfl) (fun _ h => h) ?_
    exact ⟨_, rfl, rfl⟩

/-- (*quorumite/ring.Ring).at -/
theorem at_fn (b lb i : Nat) (s : Int) (n : Nat) (gr asked : Int) (M : Hp) (hi : M[i]? = some (ringO b s lb n gr asked)) (k : Nat) (hk : k < n) : FnC Try.prog 98 #[.pointer (some ⟨b, 0, none⟩), .int .i64 (k : Nat)] M (fun v M' => v = .tuple #[.pointer (some ⟨lb, 2 * k, none⟩), .int .i64 0] ∧ M = M') := by
  refine FnC.intro Try.func98 rfl 27 rfl (by simp) (fun z => ?_)
  refine TC.env (E' := [(0, _), (1, _)]) (Sub.cons rfl (Sub.cons rfl (Sub.nil _))) ?_
  refine TC.seq ?_
  refine TC.region ?_
  refine TL.val rfl rfl (Nat.le_of_ble_eq_true rfl) (Val.assign rfl) ?_
  refine TL.val rfl rfl (Nat.le_of_ble_eq_true rfl) (Val.assign rfl) ?_
  refine TL.nil ?_
  refine AtX.then ?_
  refine TC.seq ?_
  refine TC.block ?_
  refine TC.seq ?_
  refine TC.region ?_
  refine TL.val rfl rfl (Nat.le_of_ble_eq_true rfl) (Val.move rfl) ?_
  refine TL.val rfl rfl (Nat.le_of_ble_eq_true rfl) (Val.eqlNil rfl rfl pt113) ?_
  refine TL.val rfl rfl (Nat.le_of_ble_eq_true rfl) (Val.assign rfl) ?_
  refine TL.nil ?_
  refine AtX.then ?_
  refine TC.env (E' := [(0, _), (1, _), (4, _), (5, _), (6, _)]) (Sub.cons rfl (Sub.cons rfl (Sub.cons rfl (Sub.cons rfl (Sub.cons rfl (Sub.nil _)))))) ?_
  first | refine TC.condP rfl (fun c1 => ?_) (fun c1 => ?_) | refine TC.condN rfl (fun c1 => ?_) (fun c1 => ?_) | refine TC.condB rfl (fun c1 => ?_) (fun c1 => ?_) | refine TC.cond rfl (fun c1 => ?_) (fun c1 => ?_)
  · skip
    (exfalso; simp at c1)
  · skip
    refine TC.env (E' := [(0, _), (1, _), (4, _), (5, _)]) (Sub.cons rfl (Sub.cons rfl (Sub.cons rfl (Sub.cons rfl (Sub.nil _))))) ?_
    refine TC.seq ?_
    refine TC.region ?_
    refine TL.val rfl rfl (Nat.le_of_ble_eq_true rfl) (Val.move rfl) ?_
    refine TL.val rfl rfl (Nat.le_of_ble_eq_true rfl) (Val.lss rfl rfl) ?_
    refine TL.val rfl rfl (Nat.le_of_ble_eq_true rfl) (Val.move rfl) ?_
    refine TL.gen (fun g1 hg1 => ?_)
    refine TL.gval rfl rfl (Nat.le_of_ble_eq_true rfl) rfl (Nat.le_of_ble_eq_true rfl) rfl (fun hg => by subst hg; exact (Val.move rfl)) ?_
    refine TL.gval rfl rfl (Nat.le_of_ble_eq_true rfl) rfl (Nat.le_of_ble_eq_true rfl) rfl (fun hg => by subst hg; exact (Val.move rfl)) ?_
    refine TL.gval rfl rfl (Nat.le_of_ble_eq_true rfl) rfl (Nat.le_of_ble_eq_true rfl) rfl (fun hg => by subst hg; exact (Val.nilCheck rfl)) ?_
    refine TL.gval rfl rfl (Nat.le_of_ble_eq_true rfl) rfl (Nat.le_of_ble_eq_true rfl) rfl (fun hg => by subst hg; exact (Val.fieldAddr rfl fl152_1 sz150 rfl)) ?_
    refine TL.gval rfl rfl (Nat.le_of_ble_eq_true rfl) rfl (Nat.le_of_ble_eq_true rfl) rfl (fun hg => by subst hg; exact (Val.load i rfl ag150 hi rfl)) ?_
    refine TL.gval rfl rfl (Nat.le_of_ble_eq_true rfl) rfl (Nat.le_of_ble_eq_true rfl) rfl (fun hg => by subst hg; exact (Val.lenSl rfl rfl sl150)) ?_
    refine TL.gval rfl rfl (Nat.le_of_ble_eq_true rfl) rfl (Nat.le_of_ble_eq_true rfl) rfl (fun hg => by subst hg; exact (Val.geq rfl rfl)) ?_
    refine TL.val rfl rfl (Nat.le_of_ble_eq_true rfl) (Val.pickOr rfl rfl rfl) ?_
    refine TL.val rfl rfl (Nat.le_of_ble_eq_true rfl) (Val.assign rfl) ?_
    refine TL.nil ?_
    refine AtX.then ?_
    refine TC.env (E' := [(0, _), (1, _), (4, _), (5, _), (9, _)]) (Sub.cons rfl (Sub.cons rfl (Sub.cons rfl (Sub.cons rfl (Sub.cons rfl (Sub.nil _)))))) ?_
    first | refine TC.condP rfl (fun c2 => ?_) (fun c2 => ?_) | refine TC.condN rfl (fun c2 => ?_) (fun c2 => ?_) | refine TC.condB rfl (fun c2 => ?_) (fun c2 => ?_) | refine TC.cond rfl (fun c2 => ?_) (fun c2 => ?_)
    · skip
      (exfalso; grind)
    · skip
      refine TC.env (E' := [(0, _), (1, _), (4, _), (5, _)]) (Sub.cons rfl (Sub.cons rfl (Sub.cons rfl (Sub.cons rfl (Sub.nil _))))) ?_
      refine TC.skip ?_
      refine AtX.blk ?_
      refine AtX.then ?_
      refine TC.env (E' := [(0, _), (1, _), (4, _), (5, _)]) (Sub.cons rfl (Sub.cons rfl (Sub.cons rfl (Sub.cons rfl (Sub.nil _))))) ?_
      refine TC.seq ?_
      refine TC.region ?_
      refine TL.val rfl rfl (Nat.le_of_ble_eq_true rfl) (Val.move rfl) ?_
      refine TL.val rfl rfl (Nat.le_of_ble_eq_true rfl) (Val.nilCheck rfl) ?_
      refine TL.val rfl rfl (Nat.le_of_ble_eq_true rfl) (Val.fieldAddr rfl fl152_1 sz150 rfl) ?_
      refine TL.val rfl rfl (Nat.le_of_ble_eq_true rfl) (Val.load i rfl ag150 hi rfl) ?_
      refine TL.val rfl rfl (Nat.le_of_ble_eq_true rfl) (Val.move rfl) ?_
      refine TL.val rfl rfl (Nat.le_of_ble_eq_true rfl) (Val.indexAddr (i := k) (r := 2 * k) rfl rfl sl150 sz161 rfl hk (by omega)) ?_
      refine TL.val rfl rfl (Nat.le_of_ble_eq_true rfl) (Val.assign rfl) ?_
      refine TL.val rfl rfl (Nat.le_of_ble_eq_true rfl) (Val.assign rfl) ?_
      refine TL.nil ?_
      refine AtX.then ?_
      refine TC.env (E' := [(4, _), (5, _)]) (Sub.cons rfl (Sub.cons rfl (Sub.nil _))) ?_
      refine TC.ret2 (fn := Try.f98) (fun _ _ h => h) rfl (RV.tmp rfl) (RV.tmp rfl) (fun _ h => h) ?_
      exact ⟨rfl, rfl⟩

/-- (*quorumite/ring.Ring).Gen -/
theorem rGen_fn (b lb i : Nat) (s : Int) (n : Nat) (gr asked : Int) (M : Hp) (hi : M[i]? = some (ringO b s lb n gr asked)) (l : List On) (hl : RdS M (some ⟨lb, 0, none⟩) (l.flatMap On.cs)) (hn : n = l.length) (k : Nat) (x : On) (hx : l[k]? = some x)  : FnC Try.prog 71 #[.pointer (some ⟨b, 0, none⟩), .int .i64 (k : Nat)] M (fun v M' => v = .int .i64 x.gen ∧ M = M') := by
  have hk : k < n := by rw [hn]; exact (List.getElem?_eq_some_iff.1 hx).1
  obtain ⟨bL, oL, hLe, hR⟩ : ∃ bL oL : Nat, (some ⟨lb, 0, none⟩ : Option Addr) = some ⟨bL, oL, none⟩ ∧ Rd M ⟨bL, oL, none⟩ (l.flatMap On.cs) := RdS.get hl (by rw [flat_len On.cs_len]; omega)
  cases hLe
  refine FnC.intro Try.func71 rfl 19 rfl (by simp) (fun z => ?_)
  refine TC.env (E' := [(0, _), (1, _)]) (Sub.cons rfl (Sub.cons rfl (Sub.nil _))) ?_
  refine TC.seq ?_
  refine TC.region ?_
  refine TL.val rfl rfl (Nat.le_of_ble_eq_true rfl) (Val.assign rfl) ?_
  refine TL.nil ?_
  refine AtX.then ?_
  refine TC.seq ?_
  refine TC.region ?_
  refine TL.val rfl rfl (Nat.le_of_ble_eq_true rfl) (Val.move rfl) ?_
  refine TL.val rfl rfl (Nat.le_of_ble_eq_true rfl) (Val.move rfl) ?_
  refine TL.does (some 10) rfl rfl rfl (Does.callF go98 rfl (at_fn b lb i s n gr asked _ hi k hk)) ?_
  rintro _ _ ⟨rfl, rfl⟩
  refine TL.val rfl rfl (Nat.le_of_ble_eq_true rfl) (Val.move rfl) ?_
  refine TL.val rfl rfl (Nat.le_of_ble_eq_true rfl) (Val.extract rfl rfl) ?_
  refine TL.val rfl rfl (Nat.le_of_ble_eq_true rfl) (Val.extract rfl rfl) ?_
  refine TL.val rfl rfl (Nat.le_of_ble_eq_true rfl) (Val.assign rfl) ?_
  refine TL.val rfl rfl (Nat.le_of_ble_eq_true rfl) (Val.assign rfl) ?_
  refine TL.nil ?_
  refine AtX.then ?_
  refine TC.env (E' := [(4, _), (5, _), (6, _)]) (Sub.cons rfl (Sub.cons rfl (Sub.cons rfl (Sub.nil _)))) ?_
  refine TC.seq ?_
  refine TC.seq ?_
  refine TC.region ?_
  refine TL.val rfl rfl (Nat.le_of_ble_eq_true rfl) (Val.move rfl) ?_
  refine TL.val rfl rfl (Nat.le_of_ble_eq_true rfl) (Val.neqI rfl rfl) ?_
  refine TL.nil ?_
  refine AtX.then ?_
  refine TC.env (E' := [(4, _), (5, _), (14, _)]) (Sub.cons rfl (Sub.cons rfl (Sub.cons rfl (Sub.nil _)))) ?_
  first | refine TC.condP rfl (fun c1 => ?_) (fun c1 => ?_) | refine TC.condN rfl (fun c1 => ?_) (fun c1 => ?_) | refine TC.condB rfl (fun c1 => ?_) (fun c1 => ?_) | refine TC.cond rfl (fun c1 => ?_) (fun c1 => ?_)
  · skip
    exact absurd rfl c1
  · skip
    refine TC.env (E' := [(4, _), (5, _)]) (Sub.cons rfl (Sub.cons rfl (Sub.nil _))) ?_
    refine TC.skip ?_
    refine AtX.then ?_
    refine TC.env (E' := [(4, _), (5, _)]) (Sub.cons rfl (Sub.cons rfl (Sub.nil _))) ?_
    refine TC.seq ?_
    refine TC.region ?_
    refine TL.val rfl rfl (Nat.le_of_ble_eq_true rfl) (Val.move rfl) ?_
    refine TL.val rfl rfl (Nat.le_of_ble_eq_true rfl) (Val.nilCheck rfl) ?_
    refine TL.val rfl rfl (Nat.le_of_ble_eq_true rfl) (Val.fieldAddr rfl fl161_0 sz3 rfl) ?_
    refine TL.val rfl rfl (Nat.le_of_ble_eq_true rfl) (Val.loadRd (o := 0) (j := 2 * k + 0) rfl ag3 hR (by omega) ((flat_get On.cs_len hx (by decide)).trans rfl)) ?_
    refine TL.val rfl rfl (Nat.le_of_ble_eq_true rfl) (Val.assign rfl) ?_
    refine TL.nil ?_
    refine AtX.then ?_
    refine TC.env (E' := [(4, _)]) (Sub.cons rfl (Sub.nil _)) ?_
    refine TC.ret1 (fn := Try.f71) (fun _ _ h => h) rfl (RV.tmp rfl) (fun _ h => h) ?_
    exact ⟨rfl, rfl⟩

/-- quorumite/verify.sealed -/
theorem sealed_fn (m : Ms) (M : Hp) (hg : -1000000 ≤ m.gen ∧ m.gen ≤ 1000000) : FnC Try.prog 96 #[.agg #[.int .i64 m.kind, .int .i64 m.who, .int .i64 m.gen, .int .i64 m.seq, .int .i64 m.epoch, .int .i64 m.value, .int .i64 m.metric]] M (fun v M' => v = .int .i64 (if m.kind = 2 then m.gen - 1 else m.gen) ∧ M = M') := by
  refine FnC.intro Try.func96 rfl 11 rfl (by simp) (fun z => ?_)
  refine TC.env (E' := [(0, _)]) (Sub.cons rfl (Sub.nil _)) ?_
  refine TC.seq ?_
  refine TC.region ?_
  refine TL.does (some 1) rfl rfl rfl (Does.box rfl rfl) ?_
  rintro _ _ ⟨b1, rfl, rfl⟩
  refine TL.val rfl rfl (Nat.le_of_ble_eq_true rfl) (Val.assign rfl) ?_
  refine TL.nil ?_
  refine AtX.then ?_
  refine TC.env (E' := [(1, _), (2, _)]) (Sub.cons rfl (Sub.cons rfl (Sub.nil _))) ?_
  refine TC.seq ?_
  refine TC.seq ?_
  refine TC.region ?_
  refine TL.val rfl rfl (Nat.le_of_ble_eq_true rfl) (Val.fieldAddr rfl fl61_0 sz3 rfl) ?_
  refine TL.val rfl rfl (Nat.le_of_ble_eq_true rfl) (Val.load 0 rfl ag3 rfl rfl) ?_
  refine TL.val rfl rfl (Nat.le_of_ble_eq_true rfl) (Val.eqlI rfl rfl) ?_
  refine TL.nil ?_
  refine AtX.then ?_
  refine TC.env (E' := [(1, _), (2, _), (5, _)]) (Sub.cons rfl (Sub.cons rfl (Sub.cons rfl (Sub.nil _)))) ?_
  first | refine TC.condP rfl (fun c1 => ?_) (fun c1 => ?_) | refine TC.condN rfl (fun c1 => ?_) (fun c1 => ?_) | refine TC.condB rfl (fun c1 => ?_) (fun c1 => ?_) | refine TC.cond rfl (fun c1 => ?_) (fun c1 => ?_)
  · skip
    refine TC.env (E' := [(1, _), (2, _)]) (Sub.cons rfl (Sub.cons rfl (Sub.nil _))) ?_
    refine TC.seq ?_
    refine TC.region ?_
    refine TL.val rfl rfl (Nat.le_of_ble_eq_true rfl) (Val.fieldAddr rfl fl61_2 sz3 rfl) ?_
    refine TL.val rfl rfl (Nat.le_of_ble_eq_true rfl) (Val.load 0 rfl ag3 rfl rfl) ?_
    refine TL.val rfl rfl (Nat.le_of_ble_eq_true rfl) (Val.sub rfl rfl (r := m.gen - 1) (w_i64 (by omega) (by omega))) ?_
    refine TL.val rfl rfl (Nat.le_of_ble_eq_true rfl) (Val.assign rfl) ?_
    refine TL.nil ?_
    refine AtX.then ?_
    refine TC.env (E' := [(1, _), (2, _)]) (Sub.cons rfl (Sub.cons rfl (Sub.nil _))) ?_
    refine TC.ret1 (fn := Try.f96) (fun _ _ h => h) rfl (RV.tmp rfl) (M' := M) (by repeat (first | exact ro_refl | exact ro_pre | refine ro_tail ?_ | refine ro_app ?_)) ?_
    refine ⟨?_, rfl⟩
    first | rw [if_pos (by omega)] | rw [if_neg (by omega)]
  · skip
    refine TC.env (E' := [(1, _), (2, _)]) (Sub.cons rfl (Sub.cons rfl (Sub.nil _))) ?_
    refine TC.skip ?_
    refine AtX.then ?_
    refine TC.env (E' := [(1, _), (2, _)]) (Sub.cons rfl (Sub.cons rfl (Sub.nil _))) ?_
    refine TC.seq ?_
    refine TC.region ?_
    refine TL.val rfl rfl (Nat.le_of_ble_eq_true rfl) (Val.fieldAddr rfl fl61_2 sz3 rfl) ?_
    refine TL.val rfl rfl (Nat.le_of_ble_eq_true rfl) (Val.load 0 rfl ag3 rfl rfl) ?_
    refine TL.val rfl rfl (Nat.le_of_ble_eq_true rfl) (Val.assign rfl) ?_
    refine TL.nil ?_
    refine AtX.then ?_
    refine TC.env (E' := [(2, _)]) (Sub.cons rfl (Sub.nil _)) ?_
    refine TC.ret1 (fn := Try.f96) (fun _ _ h => h) rfl (RV.tmp rfl) (M' := M) (by repeat (first | exact ro_refl | exact ro_pre | refine ro_tail ?_ | refine ro_app ?_)) ?_
    refine ⟨?_, rfl⟩
    first | rw [if_pos (by omega)] | rw [if_neg (by omega)]

end Go.Proofs.Ytphoapajlcaoeaa
/- walks -/
set_option linter.unusedVariables false
set_option linter.unusedSimpArgs false
set_option maxRecDepth 100000
set_option maxHeartbeats 4000000
namespace Go.Proofs.Ytphoapajlcaoeaa
open Go Go.X
def okK (x : On) (gen now gr : Int) : Bool := decide (gen = x.gen) || ((decide (gen = x.gen - 1) && decide (0 ≤ gen)) && decide (now < x.since + gr))
def mayP (w top bits sq : Int) : Bool := !(decide (sq ≤ top - w)) && (decide (top < sq) || decide (bitsOf .and .u64 (bits.fdiv (2 ^ (min (IntKind.u64.wrap (top - sq)).toNat IntKind.u64.bits))) 1 = 0))
def maskP (w : Int) : Int := if w = 64 then 18446744073709551615 else IntKind.u64.wrap (IntKind.u64.wrap (1 * 2 ^ (min w.toNat IntKind.u64.bits)) - 1)
/-- (*quorumite/ring.Ring).Key -/
theorem Key_fn (b lb i : Nat) (s : Int) (n : Nat) (gr asked : Int) (M : Hp) (hi : M[i]? = some (ringO b s lb n gr asked)) (l : List On) (hl : RdS M (some ⟨lb, 0, none⟩) (l.flatMap On.cs)) (hn : n = l.length) (k : Nat) (x : On) (hx : l[k]? = some x) (gen now : Int) (hg : -1000000 ≤ x.gen ∧ x.gen ≤ 1000000) (hsi : 0 ≤ x.since ∧ x.since ≤ 1099511627776) (hgr : 0 ≤ gr ∧ gr ≤ 1000) (has : 0 ≤ asked ∧ asked ≤ 1000000) (hl2 : ∃ j, j ≠ i ∧ M[j]? = some (lb, row 161 (l.flatMap On.cs))) : FnC Try.prog 97 #[.pointer (some ⟨b, 0, none⟩), .int .i64 (k : Nat), .int .i64 gen, .int .i64 now] M (fun v M' => v = .tuple #[.agg #[.int .u64 (if okK x gen now gr = true then (macKey s (k : Nat) gen) else ⟨0, 0⟩).a, .int .u64 (if okK x gen now gr = true then (macKey s (k : Nat) gen) else ⟨0, 0⟩).b], .int .i64 (if okK x gen now gr = true then 0 else 4)] ∧ M' = M.set i (ringO b s lb n gr (asked + 1))) := by
  have hk : k < n := by rw [hn]; exact (List.getElem?_eq_some_iff.1 hx).1
  obtain ⟨bL, oL, hLe, hR⟩ : ∃ bL oL : Nat, (some ⟨lb, 0, none⟩ : Option Addr) = some ⟨bL, oL, none⟩ ∧ Rd M ⟨bL, oL, none⟩ (l.flatMap On.cs) := RdS.get hl (by rw [flat_len On.cs_len]; omega)
  cases hLe
  obtain ⟨j, hji, hj⟩ := hl2
  have hlt : i < M.length := (List.getElem?_eq_some_iff.1 hi).1
  obtain ⟨M2, hM2⟩ : ∃ M2, M2 = M.set i (ringO b s lb n gr (asked + 1)) := ⟨_, rfl⟩
  have hi2 : M2[i]? = some (ringO b s lb n gr (asked + 1)) := by rw [hM2]; simp [hlt]
  have hj2 : M2[j]? = some (lb, row 161 (l.flatMap On.cs)) := by rw [hM2, List.getElem?_set_ne (Ne.symm hji)]; exact hj
  have hR2 := rd_rowA hj2
  rw [← hM2]
  refine FnC.intro Try.func97 rfl 69 rfl (by simp) (fun z => ?_)
  refine TC.env (E' := [(0, _), (1, _), (2, _), (3, _)]) (Sub.cons rfl (Sub.cons rfl (Sub.cons rfl (Sub.cons rfl (Sub.nil _))))) ?_
  refine TC.seq ?_
  refine TC.region ?_
  refine TL.does (some 8) rfl rfl rfl (Does.alloc ze69 rfl) ?_
  rintro _ _ ⟨b1, rfl, rfl⟩
  refine TL.val rfl rfl (Nat.le_of_ble_eq_true rfl) (Val.assign rfl) ?_
  refine TL.nil ?_
  refine AtX.then ?_
  refine TC.seq ?_
  refine TC.region ?_
  refine TL.val rfl rfl (Nat.le_of_ble_eq_true rfl) (Val.move rfl) ?_
  refine TL.val rfl rfl (Nat.le_of_ble_eq_true rfl) (Val.move rfl) ?_
  refine TL.does (some 16) rfl rfl rfl (Does.callF go98 rfl (at_fn b lb (i + 1) s n gr asked _ hi k hk)) ?_
  rintro _ _ ⟨rfl, rfl⟩
  refine TL.val rfl rfl (Nat.le_of_ble_eq_true rfl) (Val.move rfl) ?_
  refine TL.val rfl rfl (Nat.le_of_ble_eq_true rfl) (Val.extract rfl rfl) ?_
  refine TL.val rfl rfl (Nat.le_of_ble_eq_true rfl) (Val.extract rfl rfl) ?_
  refine TL.val rfl rfl (Nat.le_of_ble_eq_true rfl) (Val.assign rfl) ?_
  refine TL.val rfl rfl (Nat.le_of_ble_eq_true rfl) (Val.assign rfl) ?_
  refine TL.nil ?_
  refine AtX.then ?_
  refine TC.env (E' := [(0, _), (1, _), (2, _), (3, _), (8, _), (9, _), (10, _), (11, _)]) (Sub.cons rfl (Sub.cons rfl (Sub.cons rfl (Sub.cons rfl (Sub.cons rfl (Sub.cons rfl (Sub.cons rfl (Sub.cons rfl (Sub.nil _))))))))) ?_
  refine TC.seq ?_
  refine TC.seq ?_
  refine TC.region ?_
  refine TL.val rfl rfl (Nat.le_of_ble_eq_true rfl) (Val.move rfl) ?_
  refine TL.val rfl rfl (Nat.le_of_ble_eq_true rfl) (Val.neqI rfl rfl) ?_
  refine TL.nil ?_
  refine AtX.then ?_
  refine TC.env (E' := [(0, _), (1, _), (2, _), (3, _), (8, _), (9, _), (10, _), (11, _), (20, _)]) (Sub.cons rfl (Sub.cons rfl (Sub.cons rfl (Sub.cons rfl (Sub.cons rfl (Sub.cons rfl (Sub.cons rfl (Sub.cons rfl (Sub.cons rfl (Sub.nil _)))))))))) ?_
  first | refine TC.condP rfl (fun c1 => ?_) (fun c1 => ?_) | refine TC.condN rfl (fun c1 => ?_) (fun c1 => ?_) | refine TC.condB rfl (fun c1 => ?_) (fun c1 => ?_) | refine TC.cond rfl (fun c1 => ?_) (fun c1 => ?_)
  · skip
    exact absurd rfl c1
  · skip
    refine TC.env (E' := [(0, _), (1, _), (2, _), (3, _), (8, _), (9, _), (10, _)]) (Sub.cons rfl (Sub.cons rfl (Sub.cons rfl (Sub.cons rfl (Sub.cons rfl (Sub.cons rfl (Sub.cons rfl (Sub.nil _)))))))) ?_
    refine TC.skip ?_
    refine AtX.then ?_
    refine TC.env (E' := [(0, _), (1, _), (2, _), (3, _), (8, _), (9, _), (10, _)]) (Sub.cons rfl (Sub.cons rfl (Sub.cons rfl (Sub.cons rfl (Sub.cons rfl (Sub.cons rfl (Sub.cons rfl (Sub.nil _)))))))) ?_
    refine TC.seq ?_
    refine TC.region ?_
    refine TL.val rfl rfl (Nat.le_of_ble_eq_true rfl) (Val.move rfl) ?_
    refine TL.val rfl rfl (Nat.le_of_ble_eq_true rfl) (Val.nilCheck rfl) ?_
    refine TL.val rfl rfl (Nat.le_of_ble_eq_true rfl) (Val.fieldAddr rfl fl152_3 sz92 rfl) ?_
    refine TL.does (some 26) rfl rfl rfl (Does.callF go52 rfl (aAdd_fn b 3 (i + 1) _ _ asked 1 (asked + 1) _ hi rfl (w_i64 (by omega) (by omega)))) ?_
    rintro _ _ ⟨rfl, rfl⟩
    refine TL.nil ?_
    refine AtX.then ?_
    refine TC.env (E' := [(0, _), (1, _), (2, _), (3, _), (8, _), (9, _), (10, _)]) (Sub.cons rfl (Sub.cons rfl (Sub.cons rfl (Sub.cons rfl (Sub.cons rfl (Sub.cons rfl (Sub.cons rfl (Sub.nil _)))))))) ?_
    refine TC.seq ?_
    refine TC.heap (M' := (b1, .cells #[.int .u64 0, .int .u64 0] 69 (0, 0)) :: M2) (fun w h => by rw [hM2]; exact h) ?_
    refine TC.drawLM mixed 25 ?_
    refine TA.tk 0 1 rfl rfl rfl (Val.move rfl) ?_
    refine TA.tk 1 3 rfl rfl rfl (Val.move rfl) ?_
    refine TA.tk 2 7 rfl rfl rfl (Val.nilCheck rfl) ?_
    refine TA.tk 3 15 rfl rfl rfl (Val.fieldAddr rfl fl161_0 sz3 rfl) ?_
    refine TA.tk 4 31 rfl rfl rfl (Val.loadRd (o := 0) (j := 2 * k + 0) rfl ag3 (hR2.cons _) (by omega) ((flat_get On.cs_len hx (by decide)).trans rfl)) ?_
    refine TA.tk 5 63 rfl rfl rfl (Val.sub rfl rfl (r := x.gen - 1) (w_i64 (by omega) (by omega))) ?_
    refine TA.tk 6 127 rfl rfl rfl (Val.eqlI rfl rfl) ?_
    refine TA.tk 7 255 rfl rfl rfl (Val.move rfl) ?_
    refine TA.gen (fun g4 hg4 => ?_)
    refine TA.gtk 8 511 rfl rfl rfl rfl rfl (fun hg => by subst hg; exact (Val.move rfl)) ?_
    refine TA.gtk 9 1023 rfl rfl rfl rfl rfl (fun hg => by subst hg; exact (Val.geq rfl rfl)) ?_
    refine TA.tk 10 2047 rfl rfl rfl (Val.pickAnd rfl rfl rfl) ?_
    refine TA.tk 11 4095 rfl rfl rfl (Val.move rfl) ?_
    refine TA.gen (fun g5 hg5 => ?_)
    refine TA.gtk 12 8191 rfl rfl rfl rfl rfl (fun hg => by subst hg; exact (Val.move rfl)) ?_
    refine TA.gtk 13 16383 rfl rfl rfl rfl rfl (fun hg => by subst hg; exact (Val.move rfl)) ?_
    refine TA.gtk 14 32767 rfl rfl rfl rfl rfl (fun hg => by subst hg; exact (Val.nilCheck rfl)) ?_
    refine TA.gtk 15 65535 rfl rfl rfl rfl rfl (fun hg => by subst hg; exact (Val.fieldAddr (r := 2 * k + 1) rfl fl161_1 sz2 rfl)) ?_
    refine TA.gtk 16 131071 rfl rfl rfl rfl rfl (fun hg => by subst hg; exact (Val.loadRd (o := 0) (j := 2 * k + 1) rfl ag2 (hR2.cons _) (by omega) ((flat_get On.cs_len hx (by decide)).trans rfl))) ?_
    refine TA.gtk 17 262143 rfl rfl rfl rfl rfl (fun hg => by subst hg; exact (Val.move rfl)) ?_
    refine TA.gtk 18 524287 rfl rfl rfl rfl rfl (fun hg => by subst hg; exact (Val.nilCheck rfl)) ?_
    refine TA.gtk 19 1048575 rfl rfl rfl rfl rfl (fun hg => by subst hg; exact (Val.fieldAddr rfl fl152_2 sz3 rfl)) ?_
    refine TA.gtk 20 2097151 rfl rfl rfl rfl rfl (fun hg => by subst hg; exact (Val.load (i + 1) rfl ag3 hi2 rfl)) ?_
    refine TA.gtk 21 4194303 rfl rfl rfl rfl rfl (fun hg => by subst hg; exact (Val.add rfl rfl (r := x.since + gr) (w_i64 (by omega) (by omega)))) ?_
    refine TA.gtk 22 8388607 rfl rfl rfl rfl rfl (fun hg => by subst hg; exact (Val.lss rfl rfl)) ?_
    refine TA.tk 23 16777215 rfl rfl rfl (Val.pickAnd rfl rfl rfl) ?_
    refine TA.tk 24 33554431 rfl rfl rfl (Val.assign rfl) ?_
    refine TA.done (by kernel_rfl) ?_
    refine AtX.then ?_
    refine TC.env (E' := [(0, _), (1, _), (2, _), (8, _), (9, _), (10, _), (12, _)]) (Sub.cons rfl (Sub.cons rfl (Sub.cons rfl (Sub.cons rfl (Sub.cons rfl (Sub.cons rfl (Sub.cons rfl (Sub.nil _)))))))) ?_
    refine TC.seq ?_
    refine TC.seq ?_
    refine TC.region ?_
    refine TL.val rfl rfl (Nat.le_of_ble_eq_true rfl) (Val.move rfl) ?_
    refine TL.val rfl rfl (Nat.le_of_ble_eq_true rfl) (Val.move rfl) ?_
    refine TL.val rfl rfl (Nat.le_of_ble_eq_true rfl) (Val.nilCheck rfl) ?_
    refine TL.val rfl rfl (Nat.le_of_ble_eq_true rfl) (Val.fieldAddr rfl fl161_0 sz3 rfl) ?_
    refine TL.val rfl rfl (Nat.le_of_ble_eq_true rfl) (Val.loadRd (o := 0) (j := 2 * k + 0) rfl ag3 (hR2.cons _) (by omega) ((flat_get On.cs_len hx (by decide)).trans rfl)) ?_
    refine TL.val rfl rfl (Nat.le_of_ble_eq_true rfl) (Val.neqI rfl rfl) ?_
    refine TL.val rfl rfl (Nat.le_of_ble_eq_true rfl) (Val.move rfl) ?_
    refine TL.gen (fun g6 hg6 => ?_)
    refine TL.gval rfl rfl (Nat.le_of_ble_eq_true rfl) rfl (Nat.le_of_ble_eq_true rfl) rfl (fun hg => by subst hg; exact (Val.move rfl)) ?_
    refine TL.gval rfl rfl (Nat.le_of_ble_eq_true rfl) rfl (Nat.le_of_ble_eq_true rfl) rfl (fun hg => by subst hg; exact (Val.not rfl)) ?_
    refine TL.val rfl rfl (Nat.le_of_ble_eq_true rfl) (Val.pickAnd rfl rfl rfl) ?_
    refine TL.nil ?_
    refine AtX.then ?_
    refine TC.env (E' := [(0, _), (1, _), (2, _), (8, _), (9, _), (60, _)]) (Sub.cons rfl (Sub.cons rfl (Sub.cons rfl (Sub.cons rfl (Sub.cons rfl (Sub.cons rfl (Sub.nil _))))))) ?_
    first | refine TC.condP rfl (fun c2 => ?_) (fun c2 => ?_) | refine TC.condN rfl (fun c2 => ?_) (fun c2 => ?_) | refine TC.condB rfl (fun c2 => ?_) (fun c2 => ?_) | refine TC.cond rfl (fun c2 => ?_) (fun c2 => ?_)
    · skip
      refine TC.env (E' := [(0, _), (1, _), (2, _), (8, _), (9, _)]) (Sub.cons rfl (Sub.cons rfl (Sub.cons rfl (Sub.cons rfl (Sub.cons rfl (Sub.nil _)))))) ?_
      refine TC.seq ?_
      refine TC.region ?_
      refine TL.val rfl rfl (Nat.le_of_ble_eq_true rfl) (Val.buildA ar69 sz24 ze69 rfl rfl) ?_
      refine TL.does none rfl rfl rfl (Does.store (i := 0) rfl rfl rfl sz69 rfl rfl (by first | exact Nat.le_of_ble_eq_true rfl | decide | omega) rfl rfl) ?_
      rintro _ _ ⟨rfl, rfl⟩
      refine TL.val rfl rfl (Nat.le_of_ble_eq_true rfl) (Val.assign rfl) ?_
      refine TL.nil ?_
      refine AtX.then ?_
      refine TC.env (E' := [(0, _), (1, _), (2, _), (8, _), (9, _)]) (Sub.cons rfl (Sub.cons rfl (Sub.cons rfl (Sub.cons rfl (Sub.cons rfl (Sub.nil _)))))) ?_
      refine TC.ret2 (fn := Try.f97) (fun _ _ h => h) rfl (RV.agg (i := 0) rfl ag69 sz69 rfl rfl rfl) (RV.tmp rfl) (M' := M2) (by repeat (first | exact ro_refl | exact ro_pre | refine ro_tail ?_ | refine ro_app ?_)) ?_
      first | (have hok : okK x gen now gr = true := (by unfold okK; grind)) | (have hno : ¬ okK x gen now gr = true := (by unfold okK; grind))
      first | rw [if_pos hok, if_pos hok] | rw [if_neg hno, if_neg hno]
      exact ⟨rfl, rfl⟩
    · skip
      refine TC.env (E' := [(0, _), (1, _), (2, _), (8, _), (9, _)]) (Sub.cons rfl (Sub.cons rfl (Sub.cons rfl (Sub.cons rfl (Sub.cons rfl (Sub.nil _)))))) ?_
      refine TC.skip ?_
      refine AtX.then ?_
      refine TC.env (E' := [(0, _), (1, _), (2, _), (8, _), (9, _)]) (Sub.cons rfl (Sub.cons rfl (Sub.cons rfl (Sub.cons rfl (Sub.cons rfl (Sub.nil _)))))) ?_
      refine TC.seq ?_
      refine TC.region ?_
      refine TL.val rfl rfl (Nat.le_of_ble_eq_true rfl) (Val.move rfl) ?_
      refine TL.val rfl rfl (Nat.le_of_ble_eq_true rfl) (Val.nilCheck rfl) ?_
      refine TL.val rfl rfl (Nat.le_of_ble_eq_true rfl) (Val.fieldAddr rfl fl152_0 sz24 rfl) ?_
      refine TL.val rfl rfl (Nat.le_of_ble_eq_true rfl) (Val.load (i + 1) rfl ag24 hi2 rfl) ?_
      refine TL.val rfl rfl (Nat.le_of_ble_eq_true rfl) (Val.move rfl) ?_
      refine TL.val rfl rfl (Nat.le_of_ble_eq_true rfl) (Val.move rfl) ?_
      refine TL.does (some 68) rfl rfl rfl (Does.callF go37 rfl (Of_fn s (k : Nat) gen _)) ?_
      rintro _ _ ⟨rfl, rfl⟩
      refine TL.does none rfl rfl rfl (Does.store (i := 0) rfl rfl rfl sz69 rfl rfl (by first | exact Nat.le_of_ble_eq_true rfl | decide | omega) rfl rfl) ?_
      rintro _ _ ⟨rfl, rfl⟩
      refine TL.val rfl rfl (Nat.le_of_ble_eq_true rfl) (Val.assign rfl) ?_
      refine TL.nil ?_
      refine AtX.then ?_
      refine TC.env (E' := [(8, _), (9, _)]) (Sub.cons rfl (Sub.cons rfl (Sub.nil _))) ?_
      refine TC.ret2 (fn := Try.f97) (fun _ _ h => h) rfl (RV.agg (i := 0) rfl ag69 sz69 rfl rfl rfl) (RV.tmp rfl) (M' := M2) (by repeat (first | exact ro_refl | exact ro_pre | refine ro_tail ?_ | refine ro_app ?_)) ?_
      first | (have hok : okK x gen now gr = true := (by unfold okK; grind)) | (have hno : ¬ okK x gen now gr = true := (by unfold okK; grind))
      first | rw [if_pos hok, if_pos hok] | rw [if_neg hno, if_neg hno]
      exact ⟨rfl, rfl⟩

/-- (*quorumite/replay.Replay).May -/
theorem pMay_fn (b i : Nat) (w top bits ref : Int) (M : Hp) (hi : M[i]? = some (repO b w top bits ref)) (hw : 1 ≤ w ∧ w ≤ 64) (ht : 0 ≤ top ∧ top ≤ 1099511627776) (sq : Int) (hs : 1 ≤ sq ∧ sq ≤ 1099511627776) : FnC Try.prog 66 #[.pointer (some ⟨b, 0, none⟩), .int .i64 sq] M (fun v M' => v = .bool (mayP w top bits sq) ∧ M = M') := by
  refine FnC.intro Try.func66 rfl 50 rfl (by simp) (fun z => ?_)
  refine TC.env (E' := [(0, _), (1, _)]) (Sub.cons rfl (Sub.cons rfl (Sub.nil _))) ?_
  refine TC.seq ?_
  refine TC.region ?_
  refine TL.val rfl rfl (Nat.le_of_ble_eq_true rfl) (Val.assign rfl) ?_
  refine TL.nil ?_
  refine AtX.then ?_
  refine TC.seq ?_
  refine TC.seq ?_
  refine TC.drawLM mixed 23 ?_
  refine TA.tk 0 1 rfl rfl rfl (Val.move rfl) ?_
  refine TA.tk 1 3 rfl rfl rfl (Val.eqlNil rfl rfl pt118) ?_
  refine TA.tk 2 7 rfl rfl rfl (Val.move rfl) ?_
  refine TA.gen (fun g1 hg1 => ?_)
  refine TA.gtk 3 15 rfl rfl rfl rfl rfl (fun hg => by subst hg; exact (Val.move rfl)) ?_
  refine TA.gtk 4 31 rfl rfl rfl rfl rfl (fun hg => by subst hg; exact (Val.lss rfl rfl)) ?_
  refine TA.tk 5 63 rfl rfl rfl (Val.pickOr rfl rfl rfl) ?_
  refine TA.tk 6 127 rfl rfl rfl (Val.move rfl) ?_
  refine TA.gen (fun g2 hg2 => ?_)
  refine TA.gtk 7 255 rfl rfl rfl rfl rfl (fun hg => by subst hg; exact (Val.move rfl)) ?_
  refine TA.gtk 8 511 rfl rfl rfl rfl rfl (fun hg => by subst hg; exact (Val.gtr rfl rfl)) ?_
  refine TA.tk 9 1023 rfl rfl rfl (Val.pickOr rfl rfl rfl) ?_
  refine TA.tk 10 2047 rfl rfl rfl (Val.move rfl) ?_
  refine TA.gen (fun g3 hg3 => ?_)
  refine TA.gtk 11 4095 rfl rfl rfl rfl rfl (fun hg => by subst hg; exact (Val.move rfl)) ?_
  refine TA.gtk 12 8191 rfl rfl rfl rfl rfl (fun hg => by subst hg; exact (Val.move rfl)) ?_
  refine TA.gtk 13 16383 rfl rfl rfl rfl rfl (fun hg => by subst hg; exact (Val.nilCheck rfl)) ?_
  refine TA.gtk 14 32767 rfl rfl rfl rfl rfl (fun hg => by subst hg; exact (Val.fieldAddr rfl fl154_1 sz2 rfl)) ?_
  refine TA.gtk 15 65535 rfl rfl rfl rfl rfl (fun hg => by subst hg; exact (Val.load i rfl ag2 hi rfl)) ?_
  refine TA.gtk 16 131071 rfl rfl rfl rfl rfl (fun hg => by subst hg; exact (Val.move rfl)) ?_
  refine TA.gtk 17 262143 rfl rfl rfl rfl rfl (fun hg => by subst hg; exact (Val.nilCheck rfl)) ?_
  refine TA.gtk 18 524287 rfl rfl rfl rfl rfl (fun hg => by subst hg; exact (Val.fieldAddr rfl fl154_0 sz3 rfl)) ?_
  refine TA.gtk 19 1048575 rfl rfl rfl rfl rfl (fun hg => by subst hg; exact (Val.load i rfl ag3 hi rfl)) ?_
  refine TA.gtk 20 2097151 rfl rfl rfl rfl rfl (fun hg => by subst hg; exact (Val.sub rfl rfl (r := top - w) (w_i64 (by omega) (by omega)))) ?_
  refine TA.gtk 21 4194303 rfl rfl rfl rfl rfl (fun hg => by subst hg; exact (Val.leq rfl rfl)) ?_
  refine TA.tk 22 8388607 rfl rfl rfl (Val.pickOr rfl rfl rfl) ?_
  refine TA.done (by kernel_rfl) ?_
  refine AtX.then ?_
  refine TC.env (E' := [(0, _), (1, _), (4, _), (27, _)]) (Sub.cons rfl (Sub.cons rfl (Sub.cons rfl (Sub.cons rfl (Sub.nil _))))) ?_
  first | refine TC.condP rfl (fun c1 => ?_) (fun c1 => ?_) | refine TC.condN rfl (fun c1 => ?_) (fun c1 => ?_) | refine TC.condB rfl (fun c1 => ?_) (fun c1 => ?_) | refine TC.cond rfl (fun c1 => ?_) (fun c1 => ?_)
  · skip
    refine TC.env (E' := [(0, _), (1, _), (4, _)]) (Sub.cons rfl (Sub.cons rfl (Sub.cons rfl (Sub.nil _)))) ?_
    refine TC.seq ?_
    refine TC.region ?_
    refine TL.val rfl rfl (Nat.le_of_ble_eq_true rfl) (Val.assign rfl) ?_
    refine TL.nil ?_
    refine AtX.then ?_
    refine TC.env (E' := [(0, _), (1, _), (4, _)]) (Sub.cons rfl (Sub.cons rfl (Sub.cons rfl (Sub.nil _)))) ?_
    refine TC.ret1 (fn := Try.f66) (fun _ _ h => h) rfl (RV.tmp rfl) (fun _ h => h) ?_
    refine ⟨?_, rfl⟩
    unfold mayP
    first | (have hle : sq ≤ top - w := (by grind); rw [decide_eq_true hle]; rfl) | (have hle : ¬ sq ≤ top - w := (by grind); rw [decide_eq_false hle]; subst_vars; rfl)
  · skip
    refine TC.env (E' := [(0, _), (1, _), (4, _)]) (Sub.cons rfl (Sub.cons rfl (Sub.cons rfl (Sub.nil _)))) ?_
    refine TC.skip ?_
    refine AtX.then ?_
    refine TC.env (E' := [(0, _), (1, _), (4, _)]) (Sub.cons rfl (Sub.cons rfl (Sub.cons rfl (Sub.nil _)))) ?_
    refine TC.seq ?_
    refine TC.drawLM mixed 23 ?_
    refine TA.tk 0 1 rfl rfl rfl (Val.move rfl) ?_
    refine TA.tk 1 3 rfl rfl rfl (Val.move rfl) ?_
    refine TA.tk 2 7 rfl rfl rfl (Val.nilCheck rfl) ?_
    refine TA.tk 3 15 rfl rfl rfl (Val.fieldAddr rfl fl154_1 sz2 rfl) ?_
    refine TA.tk 4 31 rfl rfl rfl (Val.load i rfl ag2 hi rfl) ?_
    refine TA.tk 5 63 rfl rfl rfl (Val.gtr rfl rfl) ?_
    refine TA.tk 6 127 rfl rfl rfl (Val.move rfl) ?_
    refine TA.gen (fun g4 hg4 => ?_)
    refine TA.gtk 7 255 rfl rfl rfl rfl rfl (fun hg => by subst hg; exact (Val.move rfl)) ?_
    refine TA.gtk 8 511 rfl rfl rfl rfl rfl (fun hg => by subst hg; exact (Val.nilCheck rfl)) ?_
    refine TA.gtk 9 1023 rfl rfl rfl rfl rfl (fun hg => by subst hg; exact (Val.fieldAddr rfl fl154_2 sz24 rfl)) ?_
    refine TA.gtk 10 2047 rfl rfl rfl rfl rfl (fun hg => by subst hg; exact (Val.load i rfl ag24 hi rfl)) ?_
    refine TA.gtk 11 4095 rfl rfl rfl rfl rfl (fun hg => by subst hg; exact (Val.move rfl)) ?_
    refine TA.gtk 12 8191 rfl rfl rfl rfl rfl (fun hg => by subst hg; exact (Val.nilCheck rfl)) ?_
    refine TA.gtk 13 16383 rfl rfl rfl rfl rfl (fun hg => by subst hg; exact (Val.fieldAddr rfl fl154_1 sz2 rfl)) ?_
    refine TA.gtk 14 32767 rfl rfl rfl rfl rfl (fun hg => by subst hg; exact (Val.load i rfl ag2 hi rfl)) ?_
    refine TA.gtk 15 65535 rfl rfl rfl rfl rfl (fun hg => by subst hg; exact (Val.move rfl)) ?_
    refine TA.gtk 16 131071 rfl rfl rfl rfl rfl (fun hg => by subst hg; exact (Val.sub rfl rfl (r := top - sq) (w_i64 (by omega) (by omega)))) ?_
    refine TA.gtk 17 262143 rfl rfl rfl rfl rfl (fun hg => by subst hg; exact (Val.convI rfl iu2 in32 rfl)) ?_
    refine TA.gtk 18 524287 rfl rfl rfl rfl rfl (fun hg => by subst hg; exact (Val.shr rfl rfl (by rw [w_u64m]; omega) rfl)) ?_
    refine TA.gtk 19 1048575 rfl rfl rfl rfl rfl (fun hg => by subst hg; exact (Val.and rfl rfl rfl)) ?_
    refine TA.gtk 20 2097151 rfl rfl rfl rfl rfl (fun hg => by subst hg; exact (Val.eqlI rfl rfl)) ?_
    refine TA.tk 21 4194303 rfl rfl rfl (Val.pickOr rfl rfl rfl) ?_
    refine TA.tk 22 8388607 rfl rfl rfl (Val.assign rfl) ?_
    refine TA.done (by kernel_rfl) ?_
    refine AtX.then ?_
    refine TC.env (E' := [(4, _)]) (Sub.cons rfl (Sub.nil _)) ?_
    refine TC.ret1 (fn := Try.f66) (fun _ _ h => h) rfl (RV.tmp rfl) (fun _ h => h) ?_
    refine ⟨?_, rfl⟩
    unfold mayP
    first | (have hle : sq ≤ top - w := (by grind); rw [decide_eq_true hle]; rfl) | (have hle : ¬ sq ≤ top - w := (by grind); rw [decide_eq_false hle]; subst_vars; rfl)

/-- (*quorumite/replay.Replay).mask -/
theorem mask_fn (b i : Nat) (w top bits ref : Int) (M : Hp) (hi : M[i]? = some (repO b w top bits ref)) (hw : 1 ≤ w ∧ w ≤ 64) (ht : 0 ≤ top ∧ top ≤ 1099511627776)  : FnC Try.prog 99 #[.pointer (some ⟨b, 0, none⟩)] M (fun v M' => v = .int .u64 (maskP w) ∧ M = M') := by
  refine FnC.intro Try.func99 rfl 15 rfl (by simp) (fun z => ?_)
  refine TC.env (E' := [(0, _)]) (Sub.cons rfl (Sub.nil _)) ?_
  refine TC.seq ?_
  refine TC.region ?_
  refine TL.val rfl rfl (Nat.le_of_ble_eq_true rfl) (Val.assign rfl) ?_
  refine TL.nil ?_
  refine AtX.then ?_
  refine TC.seq ?_
  refine TC.seq ?_
  refine TC.region ?_
  refine TL.val rfl rfl (Nat.le_of_ble_eq_true rfl) (Val.move rfl) ?_
  refine TL.val rfl rfl (Nat.le_of_ble_eq_true rfl) (Val.nilCheck rfl) ?_
  refine TL.val rfl rfl (Nat.le_of_ble_eq_true rfl) (Val.fieldAddr rfl fl154_0 sz3 rfl) ?_
  refine TL.val rfl rfl (Nat.le_of_ble_eq_true rfl) (Val.load i rfl ag3 hi rfl) ?_
  refine TL.val rfl rfl (Nat.le_of_ble_eq_true rfl) (Val.eqlI rfl rfl) ?_
  refine TL.nil ?_
  refine AtX.then ?_
  refine TC.env (E' := [(0, _), (2, _), (7, _)]) (Sub.cons rfl (Sub.cons rfl (Sub.cons rfl (Sub.nil _)))) ?_
  first | refine TC.condP rfl (fun c1 => ?_) (fun c1 => ?_) | refine TC.condN rfl (fun c1 => ?_) (fun c1 => ?_) | refine TC.condB rfl (fun c1 => ?_) (fun c1 => ?_) | refine TC.cond rfl (fun c1 => ?_) (fun c1 => ?_)
  · skip
    refine TC.env (E' := [(0, _), (2, _)]) (Sub.cons rfl (Sub.cons rfl (Sub.nil _))) ?_
    refine TC.seq ?_
    refine TC.region ?_
    refine TL.val rfl rfl (Nat.le_of_ble_eq_true rfl) (Val.assign rfl) ?_
    refine TL.nil ?_
    refine AtX.then ?_
    refine TC.env (E' := [(0, _), (2, _)]) (Sub.cons rfl (Sub.cons rfl (Sub.nil _))) ?_
    refine TC.ret1 (fn := Try.f99) (fun _ _ h => h) rfl (RV.tmp rfl) (fun _ h => h) ?_
    refine ⟨?_, rfl⟩
    unfold maskP
    first | rw [if_pos (by assumption)] | rw [if_neg (by assumption)]
  · skip
    refine TC.env (E' := [(0, _), (2, _)]) (Sub.cons rfl (Sub.cons rfl (Sub.nil _))) ?_
    refine TC.skip ?_
    refine AtX.then ?_
    refine TC.env (E' := [(0, _), (2, _)]) (Sub.cons rfl (Sub.cons rfl (Sub.nil _))) ?_
    refine TC.seq ?_
    refine TC.region ?_
    refine TL.val rfl rfl (Nat.le_of_ble_eq_true rfl) (Val.move rfl) ?_
    refine TL.val rfl rfl (Nat.le_of_ble_eq_true rfl) (Val.nilCheck rfl) ?_
    refine TL.val rfl rfl (Nat.le_of_ble_eq_true rfl) (Val.fieldAddr rfl fl154_0 sz3 rfl) ?_
    refine TL.val rfl rfl (Nat.le_of_ble_eq_true rfl) (Val.load i rfl ag3 hi rfl) ?_
    refine TL.val rfl rfl (Nat.le_of_ble_eq_true rfl) (Val.convI rfl iu3 in32 (w_u64 (by omega) (by omega))) ?_
    refine TL.val rfl rfl (Nat.le_of_ble_eq_true rfl) (Val.shl rfl rfl (by omega) rfl) ?_
    refine TL.val rfl rfl (Nat.le_of_ble_eq_true rfl) (Val.sub rfl rfl rfl) ?_
    refine TL.val rfl rfl (Nat.le_of_ble_eq_true rfl) (Val.assign rfl) ?_
    refine TL.nil ?_
    refine AtX.then ?_
    refine TC.env (E' := [(2, _)]) (Sub.cons rfl (Sub.nil _)) ?_
    refine TC.ret1 (fn := Try.f99) (fun _ _ h => h) rfl (RV.tmp rfl) (fun _ h => h) ?_
    refine ⟨?_, rfl⟩
    unfold maskP
    first | rw [if_pos (by assumption)] | rw [if_neg (by assumption)]

end Go.Proofs.Ytphoapajlcaoeaa
/- walks -/
set_option linter.unusedVariables false
set_option linter.unusedSimpArgs false
set_option maxRecDepth 100000
set_option maxHeartbeats 4000000
namespace Go.Proofs.Ytphoapajlcaoeaa
open Go Go.X
def nextB (w bits : Int) : Int := bitsOf .or .u64 (bitsOf .and .u64 (IntKind.u64.wrap (bits * 2 ^ 1)) (maskP w)) (IntKind.u64.wrap (1 * 2 ^ 0))
/-- (*quorumite/replay.Replay).Take -/
theorem pTake_next (b : Nat) (w top bits ref : Int) (M : Hp) (hw : 1 ≤ w ∧ w ≤ 64) (ht : 0 ≤ top ∧ top ≤ 1000000) (hmay : mayP w top bits (top + 1) = true) : FnC Try.prog 68 #[.pointer (some ⟨b, 0, none⟩), .int .i64 (top + 1)] (repO b w top bits ref :: M) (fun v M' => v = .int .i64 0 ∧ M' = repO b w (top + 1) (nextB w bits) ref :: M) := by
  refine FnC.intro Try.func68 rfl 69 rfl (by simp) (fun z => ?_)
  refine TC.env (E' := [(0, _), (1, _)]) (Sub.cons rfl (Sub.cons rfl (Sub.nil _))) ?_
  refine TC.seq ?_
  refine TC.region ?_
  refine TL.val rfl rfl (Nat.le_of_ble_eq_true rfl) (Val.assign rfl) ?_
  refine TL.nil ?_
  refine AtX.then ?_
  refine TC.seq ?_
  refine TC.block ?_
  refine TC.seq ?_
  refine TC.region ?_
  refine TL.val rfl rfl (Nat.le_of_ble_eq_true rfl) (Val.move rfl) ?_
  refine TL.val rfl rfl (Nat.le_of_ble_eq_true rfl) (Val.eqlNil rfl rfl pt118) ?_
  refine TL.val rfl rfl (Nat.le_of_ble_eq_true rfl) (Val.assign rfl) ?_
  refine TL.nil ?_
  refine AtX.then ?_
  refine TC.env (E' := [(0, _), (1, _), (4, _), (6, _)]) (Sub.cons rfl (Sub.cons rfl (Sub.cons rfl (Sub.cons rfl (Sub.nil _))))) ?_
  first | refine TC.condP rfl (fun c1 => ?_) (fun c1 => ?_) | refine TC.condN rfl (fun c1 => ?_) (fun c1 => ?_) | refine TC.condB rfl (fun c1 => ?_) (fun c1 => ?_) | refine TC.cond rfl (fun c1 => ?_) (fun c1 => ?_)
  · skip
    (exfalso; simp at c1)
  · skip
    refine TC.env (E' := [(0, _), (1, _), (4, _)]) (Sub.cons rfl (Sub.cons rfl (Sub.cons rfl (Sub.nil _)))) ?_
    refine TC.seq ?_
    refine TC.region ?_
    refine TL.val rfl rfl (Nat.le_of_ble_eq_true rfl) (Val.move rfl) ?_
    refine TL.val rfl rfl (Nat.le_of_ble_eq_true rfl) (Val.move rfl) ?_
    refine TL.does (some 12) rfl rfl rfl (Does.callF go66 rfl (pMay_fn b 0 w top bits ref _ rfl hw ⟨by omega, by omega⟩ (top + 1) ⟨by omega, by omega⟩)) ?_
    rintro _ _ ⟨rfl, rfl⟩
    rw [hmay]
    refine TL.val rfl rfl (Nat.le_of_ble_eq_true rfl) (Val.not rfl) ?_
    refine TL.val rfl rfl (Nat.le_of_ble_eq_true rfl) (Val.assign rfl) ?_
    refine TL.nil ?_
    refine AtX.then ?_
    refine TC.env (E' := [(0, _), (1, _), (4, _), (9, _)]) (Sub.cons rfl (Sub.cons rfl (Sub.cons rfl (Sub.cons rfl (Sub.nil _))))) ?_
    first | refine TC.condP rfl (fun c2 => ?_) (fun c2 => ?_) | refine TC.condN rfl (fun c2 => ?_) (fun c2 => ?_) | refine TC.condB rfl (fun c2 => ?_) (fun c2 => ?_) | refine TC.cond rfl (fun c2 => ?_) (fun c2 => ?_)
    · skip
      cases c2
    · skip
      refine TC.env (E' := [(0, _), (1, _), (4, _)]) (Sub.cons rfl (Sub.cons rfl (Sub.cons rfl (Sub.nil _)))) ?_
      refine TC.skip ?_
      refine AtX.blk ?_
      refine AtX.then ?_
      refine TC.env (E' := [(0, _), (1, _), (4, _)]) (Sub.cons rfl (Sub.cons rfl (Sub.cons rfl (Sub.nil _)))) ?_
      refine TC.seq ?_
      refine TC.seq ?_
      refine TC.region ?_
      refine TL.val rfl rfl (Nat.le_of_ble_eq_true rfl) (Val.move rfl) ?_
      refine TL.val rfl rfl (Nat.le_of_ble_eq_true rfl) (Val.move rfl) ?_
      refine TL.val rfl rfl (Nat.le_of_ble_eq_true rfl) (Val.nilCheck rfl) ?_
      refine TL.val rfl rfl (Nat.le_of_ble_eq_true rfl) (Val.fieldAddr rfl fl154_1 sz2 rfl) ?_
      refine TL.val rfl rfl (Nat.le_of_ble_eq_true rfl) (Val.load 0 rfl ag2 rfl rfl) ?_
      refine TL.val rfl rfl (Nat.le_of_ble_eq_true rfl) (Val.sub rfl rfl (r := 1) (by rw [w_i64 (by omega) (by omega)]; omega)) ?_
      refine TL.val rfl rfl (Nat.le_of_ble_eq_true rfl) (Val.assign rfl) ?_
      refine TL.nil ?_
      refine AtX.then ?_
      refine TC.env (E' := [(0, _), (1, _), (4, _), (5, _)]) (Sub.cons rfl (Sub.cons rfl (Sub.cons rfl (Sub.cons rfl (Sub.nil _))))) ?_
      refine TC.seq ?_
      refine TC.region ?_
      refine TL.val rfl rfl (Nat.le_of_ble_eq_true rfl) (Val.move rfl) ?_
      refine TL.val rfl rfl (Nat.le_of_ble_eq_true rfl) (Val.gtr rfl rfl) ?_
      refine TL.nil ?_
      refine AtX.then ?_
      refine TC.env (E' := [(0, _), (1, _), (4, _), (5, _), (25, _)]) (Sub.cons rfl (Sub.cons rfl (Sub.cons rfl (Sub.cons rfl (Sub.cons rfl (Sub.nil _)))))) ?_
      first | refine TC.condP rfl (fun c3 => ?_) (fun c3 => ?_) | refine TC.condN rfl (fun c3 => ?_) (fun c3 => ?_) | refine TC.condB rfl (fun c3 => ?_) (fun c3 => ?_) | refine TC.cond rfl (fun c3 => ?_) (fun c3 => ?_)
      · skip
        refine TC.env (E' := [(0, _), (1, _), (4, _), (5, _)]) (Sub.cons rfl (Sub.cons rfl (Sub.cons rfl (Sub.cons rfl (Sub.nil _))))) ?_
        refine TC.seq ?_
        refine TC.seq ?_
        refine TC.region ?_
        refine TL.val rfl rfl (Nat.le_of_ble_eq_true rfl) (Val.move rfl) ?_
        refine TL.val rfl rfl (Nat.le_of_ble_eq_true rfl) (Val.nilCheck rfl) ?_
        refine TL.val rfl rfl (Nat.le_of_ble_eq_true rfl) (Val.fieldAddr rfl fl154_2 sz24 rfl) ?_
        refine TL.val rfl rfl (Nat.le_of_ble_eq_true rfl) (Val.load 0 rfl ag24 rfl rfl) ?_
        refine TL.val rfl rfl (Nat.le_of_ble_eq_true rfl) (Val.move rfl) ?_
        refine TL.val rfl rfl (Nat.le_of_ble_eq_true rfl) (Val.min rfl rfl (r := 1) rfl) ?_
        refine TL.val rfl rfl (Nat.le_of_ble_eq_true rfl) (Val.convI rfl iu2 in32 (r := 1) rfl) ?_
        refine TL.val rfl rfl (Nat.le_of_ble_eq_true rfl) (Val.shl rfl rfl (by omega) (r := IntKind.u64.wrap (bits * 2 ^ 1)) rfl) ?_
        refine TL.val rfl rfl (Nat.le_of_ble_eq_true rfl) (Val.nilCheck rfl) ?_
        refine TL.val rfl rfl (Nat.le_of_ble_eq_true rfl) (Val.fieldAddr rfl fl154_2 sz24 rfl) ?_
        refine TL.does none rfl rfl rfl (Does.store (i := 0) rfl rfl rfl sz24 rfl rfl (by first | exact Nat.le_of_ble_eq_true rfl | decide | omega) rfl rfl) ?_
        rintro _ _ ⟨rfl, rfl⟩
        refine TL.nil ?_
        refine AtX.then ?_
        refine TC.env (E' := [(0, _), (1, _), (4, _), (5, _)]) (Sub.cons rfl (Sub.cons rfl (Sub.cons rfl (Sub.cons rfl (Sub.nil _))))) ?_
        refine TC.seq ?_
        refine TC.region ?_
        refine TL.val rfl rfl (Nat.le_of_ble_eq_true rfl) (Val.move rfl) ?_
        refine TL.val rfl rfl (Nat.le_of_ble_eq_true rfl) (Val.geq rfl rfl) ?_
        refine TL.nil ?_
        refine AtX.then ?_
        refine TC.env (E' := [(0, _), (1, _), (4, _), (37, _)]) (Sub.cons rfl (Sub.cons rfl (Sub.cons rfl (Sub.cons rfl (Sub.nil _))))) ?_
        first | refine TC.condP rfl (fun c4 => ?_) (fun c4 => ?_) | refine TC.condN rfl (fun c4 => ?_) (fun c4 => ?_) | refine TC.condB rfl (fun c4 => ?_) (fun c4 => ?_) | refine TC.cond rfl (fun c4 => ?_) (fun c4 => ?_)
        · skip
          (exfalso; omega)
        · skip
          refine TC.env (E' := [(0, _), (1, _), (4, _)]) (Sub.cons rfl (Sub.cons rfl (Sub.cons rfl (Sub.nil _)))) ?_
          refine TC.skip ?_
          refine AtX.then ?_
          refine TC.env (E' := [(0, _), (1, _), (4, _)]) (Sub.cons rfl (Sub.cons rfl (Sub.cons rfl (Sub.nil _)))) ?_
          refine TC.seq ?_
          refine TC.heap (M' := repO b w top (IntKind.u64.wrap (bits * 2 ^ 1)) ref :: M) (fun w h => h) ?_
          refine TC.drawG [9] M mixed 10 ?_
          refine TG.tk false 0 1 rfl rfl rfl (Val.move rfl) ?_
          refine TG.tk false 1 3 rfl rfl rfl (Val.nilCheck rfl) ?_
          refine TG.tk false 2 7 rfl rfl rfl (Val.fieldAddr rfl fl154_2 sz24 rfl) ?_
          refine TG.tk false 3 15 rfl rfl rfl (Val.load 0 rfl ag24 rfl rfl) ?_
          refine TG.tk false 4 31 rfl rfl rfl (Val.move rfl) ?_
          refine TG.one 5 (by kernel_rfl) ?_
          refine TP.dz false 63 (some 46) rfl rfl rfl rfl (Does.callF go99 rfl (mask_fn b 0 w top (IntKind.u64.wrap (bits * 2 ^ 1)) ref _ rfl hw ⟨by omega, by omega⟩)) ?_
          rintro _ _ ⟨rfl, rfl⟩
          refine roK ?_
          refine TG.tk false 6 127 rfl rfl rfl (Val.and rfl rfl rfl) ?_
          refine TG.tw false 7 255 rfl rfl rfl (Val.nilCheck rfl) ?_
          refine TG.tk false 8 511 rfl rfl rfl (Val.fieldAddr rfl fl154_2 sz24 rfl) ?_
          refine TG.one 9 (by kernel_rfl) ?_
          refine TP.dz true 1023 none rfl rfl rfl rfl (Does.store (i := 0) rfl rfl rfl sz24 rfl rfl (by first | exact Nat.le_of_ble_eq_true rfl | decide | omega) rfl rfl) ?_
          rintro _ _ ⟨rfl, rfl⟩
          refine roK ?_
          refine TG.done (by kernel_rfl) ?_ _
          refine AtX.then ?_
          refine TC.env (E' := [(0, _), (1, _), (4, _)]) (Sub.cons rfl (Sub.cons rfl (Sub.cons rfl (Sub.nil _)))) ?_
          refine TC.region ?_
          refine TL.val rfl rfl (Nat.le_of_ble_eq_true rfl) (Val.move rfl) ?_
          refine TL.val rfl rfl (Nat.le_of_ble_eq_true rfl) (Val.move rfl) ?_
          refine TL.val rfl rfl (Nat.le_of_ble_eq_true rfl) (Val.nilCheck rfl) ?_
          refine TL.val rfl rfl (Nat.le_of_ble_eq_true rfl) (Val.fieldAddr rfl fl154_1 sz2 rfl) ?_
          refine TL.does none rfl rfl rfl (Does.store (i := 0) rfl rfl rfl sz2 rfl rfl (by first | exact Nat.le_of_ble_eq_true rfl | decide | omega) rfl rfl) ?_
          rintro _ _ ⟨rfl, rfl⟩
          refine TL.nil ?_
          refine AtX.then ?_
          refine TC.env (E' := [(0, _), (1, _), (4, _)]) (Sub.cons rfl (Sub.cons rfl (Sub.cons rfl (Sub.nil _)))) ?_
          refine TC.seq ?_
          refine TC.heap (M' := repO b w (top + 1) (bitsOf .and .u64 (IntKind.u64.wrap (bits * 2 ^ 1)) (maskP w)) ref :: M) (fun w h => h) ?_
          refine TC.drawG [15] M mixed 16 ?_
          refine TG.tk false 0 1 rfl rfl rfl (Val.move rfl) ?_
          refine TG.tk false 1 3 rfl rfl rfl (Val.nilCheck rfl) ?_
          refine TG.tk false 2 7 rfl rfl rfl (Val.fieldAddr rfl fl154_2 sz24 rfl) ?_
          refine TG.tk false 3 15 rfl rfl rfl (Val.load 0 rfl ag24 rfl rfl) ?_
          refine TG.tk false 4 31 rfl rfl rfl (Val.move rfl) ?_
          refine TG.tk false 5 63 rfl rfl rfl (Val.nilCheck rfl) ?_
          refine TG.tk false 6 127 rfl rfl rfl (Val.fieldAddr rfl fl154_1 sz2 rfl) ?_
          refine TG.tk false 7 255 rfl rfl rfl (Val.load 0 rfl ag2 rfl rfl) ?_
          refine TG.tk false 8 511 rfl rfl rfl (Val.move rfl) ?_
          refine TG.tk false 9 1023 rfl rfl rfl (Val.sub rfl rfl (r := 0) (by rw [w_i64 (by omega) (by omega)]; omega)) ?_
          refine TG.tk false 10 2047 rfl rfl rfl (Val.convI rfl iu2 in32 (r := 0) rfl) ?_
          refine TG.tk false 11 4095 rfl rfl rfl (Val.shl rfl rfl (by omega) (r := IntKind.u64.wrap (1 * 2 ^ 0)) rfl) ?_
          refine TG.tk false 12 8191 rfl rfl rfl (Val.or rfl rfl rfl) ?_
          refine TG.tw false 13 16383 rfl rfl rfl (Val.nilCheck rfl) ?_
          refine TG.tk false 14 32767 rfl rfl rfl (Val.fieldAddr rfl fl154_2 sz24 rfl) ?_
          refine TG.one 15 (by kernel_rfl) ?_
          refine TP.dz true 65535 none rfl rfl rfl rfl (Does.store (i := 0) rfl rfl rfl sz24 rfl rfl (by first | exact Nat.le_of_ble_eq_true rfl | decide | omega) rfl rfl) ?_
          rintro _ _ ⟨rfl, rfl⟩
          refine roK ?_
          refine TG.done (by kernel_rfl) ?_ _
          refine AtX.then ?_
          refine TC.env (E' := [(4, _)]) (Sub.cons rfl (Sub.nil _)) ?_
          refine TC.seq ?_
          refine TC.region ?_
          refine TL.val rfl rfl (Nat.le_of_ble_eq_true rfl) (Val.assign rfl) ?_
          refine TL.nil ?_
          refine AtX.then ?_
          refine TC.env (E' := [(4, _)]) (Sub.cons rfl (Sub.nil _)) ?_
          refine TC.ret1 (fn := Try.f68) (fun _ _ h => h) rfl (RV.tmp rfl) (fun _ h => h) ?_
          exact ⟨rfl, rfl⟩
      · skip
        (exfalso; omega)

/-- (*quorumite/replay.Replay).Take -/
theorem pTake_no (b : Nat) (w top bits ref : Int) (M : Hp) (hw : 1 ≤ w ∧ w ≤ 64) (ht : 0 ≤ top ∧ top ≤ 1000000) (sq : Int) (hs : 1 ≤ sq ∧ sq ≤ 1099511627776) (hr : 0 ≤ ref ∧ ref ≤ 1000000) (hmay : mayP w top bits sq = false) : FnC Try.prog 68 #[.pointer (some ⟨b, 0, none⟩), .int .i64 sq] (repO b w top bits ref :: M) (fun v M' => v = .int .i64 6 ∧ M' = repO b w top bits (ref + 1) :: M) := by
  refine FnC.intro Try.func68 rfl 69 rfl (by simp) (fun z => ?_)
  refine TC.env (E' := [(0, _), (1, _)]) (Sub.cons rfl (Sub.cons rfl (Sub.nil _))) ?_
  refine TC.seq ?_
  refine TC.region ?_
  refine TL.val rfl rfl (Nat.le_of_ble_eq_true rfl) (Val.assign rfl) ?_
  refine TL.nil ?_
  refine AtX.then ?_
  refine TC.seq ?_
  refine TC.block ?_
  refine TC.seq ?_
  refine TC.region ?_
  refine TL.val rfl rfl (Nat.le_of_ble_eq_true rfl) (Val.move rfl) ?_
  refine TL.val rfl rfl (Nat.le_of_ble_eq_true rfl) (Val.eqlNil rfl rfl pt118) ?_
  refine TL.val rfl rfl (Nat.le_of_ble_eq_true rfl) (Val.assign rfl) ?_
  refine TL.nil ?_
  refine AtX.then ?_
  refine TC.env (E' := [(0, _), (1, _), (4, _), (6, _)]) (Sub.cons rfl (Sub.cons rfl (Sub.cons rfl (Sub.cons rfl (Sub.nil _))))) ?_
  first | refine TC.condP rfl (fun c1 => ?_) (fun c1 => ?_) | refine TC.condN rfl (fun c1 => ?_) (fun c1 => ?_) | refine TC.condB rfl (fun c1 => ?_) (fun c1 => ?_) | refine TC.cond rfl (fun c1 => ?_) (fun c1 => ?_)
  · skip
    (exfalso; simp at c1)
  · skip
    refine TC.env (E' := [(0, _), (1, _), (4, _)]) (Sub.cons rfl (Sub.cons rfl (Sub.cons rfl (Sub.nil _)))) ?_
    refine TC.seq ?_
    refine TC.region ?_
    refine TL.val rfl rfl (Nat.le_of_ble_eq_true rfl) (Val.move rfl) ?_
    refine TL.val rfl rfl (Nat.le_of_ble_eq_true rfl) (Val.move rfl) ?_
    refine TL.does (some 12) rfl rfl rfl (Does.callF go66 rfl (pMay_fn b 0 w top bits ref _ rfl hw ⟨by omega, by omega⟩ sq hs)) ?_
    rintro _ _ ⟨rfl, rfl⟩
    rw [hmay]
    refine TL.val rfl rfl (Nat.le_of_ble_eq_true rfl) (Val.not rfl) ?_
    refine TL.val rfl rfl (Nat.le_of_ble_eq_true rfl) (Val.assign rfl) ?_
    refine TL.nil ?_
    refine AtX.then ?_
    refine TC.env (E' := [(0, _), (1, _), (4, _), (9, _)]) (Sub.cons rfl (Sub.cons rfl (Sub.cons rfl (Sub.cons rfl (Sub.nil _))))) ?_
    first | refine TC.condP rfl (fun c2 => ?_) (fun c2 => ?_) | refine TC.condN rfl (fun c2 => ?_) (fun c2 => ?_) | refine TC.condB rfl (fun c2 => ?_) (fun c2 => ?_) | refine TC.cond rfl (fun c2 => ?_) (fun c2 => ?_)
    · skip
      refine TC.env (E' := [(0, _), (1, _), (4, _)]) (Sub.cons rfl (Sub.cons rfl (Sub.cons rfl (Sub.nil _)))) ?_
      refine TC.seq ?_
      refine TC.region ?_
      refine TL.val rfl rfl (Nat.le_of_ble_eq_true rfl) (Val.move rfl) ?_
      refine TL.val rfl rfl (Nat.le_of_ble_eq_true rfl) (Val.nilCheck rfl) ?_
      refine TL.val rfl rfl (Nat.le_of_ble_eq_true rfl) (Val.fieldAddr rfl fl154_3 sz92 rfl) ?_
      refine TL.does (some 17) rfl rfl rfl (Does.callF go52 rfl (aAdd_fn b 3 0 _ _ ref 1 (ref + 1) _ rfl rfl (w_i64 (by omega) (by omega)))) ?_
      rintro _ _ ⟨rfl, rfl⟩
      refine TL.nil ?_
      refine AtX.then ?_
      refine TC.env (E' := [(0, _), (1, _), (4, _)]) (Sub.cons rfl (Sub.cons rfl (Sub.cons rfl (Sub.nil _)))) ?_
      refine TC.seq ?_
      refine TC.region ?_
      refine TL.val rfl rfl (Nat.le_of_ble_eq_true rfl) (Val.assign rfl) ?_
      refine TL.nil ?_
      refine AtX.then ?_
      refine TC.env (E' := [(0, _), (1, _), (4, _)]) (Sub.cons rfl (Sub.cons rfl (Sub.cons rfl (Sub.nil _)))) ?_
      refine TC.ret1 (fn := Try.f68) (fun _ _ h => h) rfl (RV.tmp rfl) (fun _ h => h) ?_
      exact ⟨rfl, rfl⟩
    · skip
      cases c2

/-- (*quorumite/replay.Replay).Top -/
theorem pTop_fn (b i : Nat) (w top bits ref : Int) (M : Hp) (hi : M[i]? = some (repO b w top bits ref)) : FnC Try.prog 73 #[.pointer (some ⟨b, 0, none⟩)] M (fun v M' => v = .int .i64 top ∧ M = M') := by
  refine FnC.intro Try.func73 rfl 9 rfl (by simp) (fun z => ?_)
  refine TC.env (E' := [(0, _)]) (Sub.cons rfl (Sub.nil _)) ?_
  refine TC.seq ?_
  refine TC.region ?_
  refine TL.val rfl rfl (Nat.le_of_ble_eq_true rfl) (Val.assign rfl) ?_
  refine TL.nil ?_
  refine AtX.then ?_
  refine TC.seq ?_
  refine TC.seq ?_
  refine TC.region ?_
  refine TL.val rfl rfl (Nat.le_of_ble_eq_true rfl) (Val.move rfl) ?_
  refine TL.val rfl rfl (Nat.le_of_ble_eq_true rfl) (Val.eqlNil rfl rfl pt118) ?_
  refine TL.nil ?_
  refine AtX.then ?_
  refine TC.env (E' := [(0, _), (2, _), (4, _)]) (Sub.cons rfl (Sub.cons rfl (Sub.cons rfl (Sub.nil _)))) ?_
  first | refine TC.condP rfl (fun c1 => ?_) (fun c1 => ?_) | refine TC.condN rfl (fun c1 => ?_) (fun c1 => ?_) | refine TC.condB rfl (fun c1 => ?_) (fun c1 => ?_) | refine TC.cond rfl (fun c1 => ?_) (fun c1 => ?_)
  · skip
    (exfalso; simp at c1)
  · skip
    refine TC.env (E' := [(0, _), (2, _)]) (Sub.cons rfl (Sub.cons rfl (Sub.nil _))) ?_
    refine TC.skip ?_
    refine AtX.then ?_
    refine TC.env (E' := [(0, _), (2, _)]) (Sub.cons rfl (Sub.cons rfl (Sub.nil _))) ?_
    refine TC.seq ?_
    refine TC.region ?_
    refine TL.val rfl rfl (Nat.le_of_ble_eq_true rfl) (Val.move rfl) ?_
    refine TL.val rfl rfl (Nat.le_of_ble_eq_true rfl) (Val.nilCheck rfl) ?_
    refine TL.val rfl rfl (Nat.le_of_ble_eq_true rfl) (Val.fieldAddr rfl fl154_1 sz2 rfl) ?_
    refine TL.val rfl rfl (Nat.le_of_ble_eq_true rfl) (Val.load i rfl ag2 hi rfl) ?_
    refine TL.val rfl rfl (Nat.le_of_ble_eq_true rfl) (Val.assign rfl) ?_
    refine TL.nil ?_
    refine AtX.then ?_
    refine TC.env (E' := [(2, _)]) (Sub.cons rfl (Sub.nil _)) ?_
    refine TC.ret1 (fn := Try.f73) (fun _ _ h => h) rfl (RV.tmp rfl) (fun _ h => h) ?_
    exact ⟨rfl, rfl⟩

/-- (*quorumite/ring.Ring).Rotate -/
theorem rRotate_fn (b lb i : Nat) (s : Int) (n : Nat) (gr asked : Int) (M : Hp) (hi : M[i]? = some (ringO b s lb n gr asked)) (j : Nat) (l : List On) (hj : M[j]? = some (lb, row 161 (l.flatMap On.cs))) (hn : n = l.length) (k : Nat) (x : On) (hx : l[k]? = some x) (gen now : Int) (hg : gen = x.gen + 1 ∧ 0 ≤ gen ∧ gen ≤ 60000) (hnow : 0 ≤ now ∧ now ≤ 1099511627776) : FnC Try.prog 67 #[.pointer (some ⟨b, 0, none⟩), .int .i64 (k : Nat), .int .i64 gen, .int .i64 now] M (fun v M' => v = .int .i64 0 ∧ M' = M.set j (lb, row 161 ((l.set k ⟨gen, now⟩).flatMap On.cs))) := by
  have hkl : k < l.length := (List.getElem?_eq_some_iff.1 hx).1
  have hk : k < n := by omega
  have hR := rd_rowA hj
  refine FnC.intro Try.func67 rfl 45 rfl (by simp) (fun z => ?_)
  refine TC.env (E' := [(0, _), (1, _), (2, _), (3, _)]) (Sub.cons rfl (Sub.cons rfl (Sub.cons rfl (Sub.cons rfl (Sub.nil _))))) ?_
  refine TC.seq ?_
  refine TC.region ?_
  refine TL.val rfl rfl (Nat.le_of_ble_eq_true rfl) (Val.assign rfl) ?_
  refine TL.nil ?_
  refine AtX.then ?_
  refine TC.seq ?_
  refine TC.region ?_
  refine TL.val rfl rfl (Nat.le_of_ble_eq_true rfl) (Val.move rfl) ?_
  refine TL.val rfl rfl (Nat.le_of_ble_eq_true rfl) (Val.move rfl) ?_
  refine TL.does (some 14) rfl rfl rfl (Does.callF go98 rfl (at_fn b lb i s n gr asked _ hi k hk)) ?_
  rintro _ _ ⟨rfl, rfl⟩
  refine TL.val rfl rfl (Nat.le_of_ble_eq_true rfl) (Val.move rfl) ?_
  refine TL.val rfl rfl (Nat.le_of_ble_eq_true rfl) (Val.extract rfl rfl) ?_
  refine TL.val rfl rfl (Nat.le_of_ble_eq_true rfl) (Val.extract rfl rfl) ?_
  refine TL.val rfl rfl (Nat.le_of_ble_eq_true rfl) (Val.assign rfl) ?_
  refine TL.val rfl rfl (Nat.le_of_ble_eq_true rfl) (Val.assign rfl) ?_
  refine TL.nil ?_
  refine AtX.then ?_
  refine TC.env (E' := [(2, _), (3, _), (8, _), (9, _), (10, _)]) (Sub.cons rfl (Sub.cons rfl (Sub.cons rfl (Sub.cons rfl (Sub.cons rfl (Sub.nil _)))))) ?_
  refine TC.seq ?_
  refine TC.block ?_
  refine TC.seq ?_
  refine TC.region ?_
  refine TL.val rfl rfl (Nat.le_of_ble_eq_true rfl) (Val.move rfl) ?_
  refine TL.val rfl rfl (Nat.le_of_ble_eq_true rfl) (Val.neqI rfl rfl) ?_
  refine TL.val rfl rfl (Nat.le_of_ble_eq_true rfl) (Val.assign rfl) ?_
  refine TL.nil ?_
  refine AtX.then ?_
  refine TC.env (E' := [(2, _), (3, _), (8, _), (9, _), (10, _), (17, _)]) (Sub.cons rfl (Sub.cons rfl (Sub.cons rfl (Sub.cons rfl (Sub.cons rfl (Sub.cons rfl (Sub.nil _))))))) ?_
  first | refine TC.condP rfl (fun c1 => ?_) (fun c1 => ?_) | refine TC.condN rfl (fun c1 => ?_) (fun c1 => ?_) | refine TC.condB rfl (fun c1 => ?_) (fun c1 => ?_) | refine TC.cond rfl (fun c1 => ?_) (fun c1 => ?_)
  · skip
    exact absurd rfl c1
  · skip
    refine TC.env (E' := [(2, _), (3, _), (8, _), (9, _)]) (Sub.cons rfl (Sub.cons rfl (Sub.cons rfl (Sub.cons rfl (Sub.nil _))))) ?_
    refine TC.seq ?_
    refine TC.region ?_
    refine TL.val rfl rfl (Nat.le_of_ble_eq_true rfl) (Val.move rfl) ?_
    refine TL.val rfl rfl (Nat.le_of_ble_eq_true rfl) (Val.move rfl) ?_
    refine TL.val rfl rfl (Nat.le_of_ble_eq_true rfl) (Val.nilCheck rfl) ?_
    refine TL.val rfl rfl (Nat.le_of_ble_eq_true rfl) (Val.fieldAddr rfl fl161_0 sz3 rfl) ?_
    refine TL.val rfl rfl (Nat.le_of_ble_eq_true rfl) (Val.loadRd (o := 0) (j := 2 * k + 0) rfl ag3 hR (by omega) ((flat_get On.cs_len hx (by decide)).trans rfl)) ?_
    refine TL.val rfl rfl (Nat.le_of_ble_eq_true rfl) (Val.add rfl rfl (r := x.gen + 1) (w_i64 (by omega) (by omega))) ?_
    refine TL.val rfl rfl (Nat.le_of_ble_eq_true rfl) (Val.neqI rfl rfl) ?_
    refine TL.val rfl rfl (Nat.le_of_ble_eq_true rfl) (Val.move rfl) ?_
    refine TL.gen (fun g2 hg2 => ?_)
    refine TL.gval rfl rfl (Nat.le_of_ble_eq_true rfl) rfl (Nat.le_of_ble_eq_true rfl) rfl (fun hg => by subst hg; exact (Val.move rfl)) ?_
    refine TL.gval rfl rfl (Nat.le_of_ble_eq_true rfl) rfl (Nat.le_of_ble_eq_true rfl) rfl (fun hg => by subst hg; exact (Val.gtr rfl rfl)) ?_
    refine TL.val rfl rfl (Nat.le_of_ble_eq_true rfl) (Val.pickOr rfl rfl rfl) ?_
    refine TL.val rfl rfl (Nat.le_of_ble_eq_true rfl) (Val.assign rfl) ?_
    refine TL.nil ?_
    refine AtX.then ?_
    refine TC.env (E' := [(2, _), (3, _), (8, _), (9, _), (21, _)]) (Sub.cons rfl (Sub.cons rfl (Sub.cons rfl (Sub.cons rfl (Sub.cons rfl (Sub.nil _)))))) ?_
    first | refine TC.condP rfl (fun c2 => ?_) (fun c2 => ?_) | refine TC.condN rfl (fun c2 => ?_) (fun c2 => ?_) | refine TC.condB rfl (fun c2 => ?_) (fun c2 => ?_) | refine TC.cond rfl (fun c2 => ?_) (fun c2 => ?_)
    · skip
      (exfalso; grind)
    · skip
      refine TC.env (E' := [(2, _), (3, _), (8, _), (9, _)]) (Sub.cons rfl (Sub.cons rfl (Sub.cons rfl (Sub.cons rfl (Sub.nil _))))) ?_
      refine TC.seq ?_
      refine TC.region ?_
      refine TL.val rfl rfl (Nat.le_of_ble_eq_true rfl) (Val.move rfl) ?_
      refine TL.val rfl rfl (Nat.le_of_ble_eq_true rfl) (Val.lss rfl rfl) ?_
      refine TL.val rfl rfl (Nat.le_of_ble_eq_true rfl) (Val.move rfl) ?_
      refine TL.gen (fun g3 hg3 => ?_)
      refine TL.gval rfl rfl (Nat.le_of_ble_eq_true rfl) rfl (Nat.le_of_ble_eq_true rfl) rfl (fun hg => by subst hg; exact (Val.move rfl)) ?_
      refine TL.gval rfl rfl (Nat.le_of_ble_eq_true rfl) rfl (Nat.le_of_ble_eq_true rfl) rfl (fun hg => by subst hg; exact (Val.gtr rfl rfl)) ?_
      refine TL.val rfl rfl (Nat.le_of_ble_eq_true rfl) (Val.pickOr rfl rfl rfl) ?_
      refine TL.val rfl rfl (Nat.le_of_ble_eq_true rfl) (Val.assign rfl) ?_
      refine TL.nil ?_
      refine AtX.then ?_
      refine TC.env (E' := [(2, _), (3, _), (8, _), (9, _), (33, _)]) (Sub.cons rfl (Sub.cons rfl (Sub.cons rfl (Sub.cons rfl (Sub.cons rfl (Sub.nil _)))))) ?_
      first | refine TC.condP rfl (fun c3 => ?_) (fun c3 => ?_) | refine TC.condN rfl (fun c3 => ?_) (fun c3 => ?_) | refine TC.condB rfl (fun c3 => ?_) (fun c3 => ?_) | refine TC.cond rfl (fun c3 => ?_) (fun c3 => ?_)
      · skip
        (exfalso; grind)
      · skip
        refine TC.env (E' := [(2, _), (3, _), (8, _), (9, _)]) (Sub.cons rfl (Sub.cons rfl (Sub.cons rfl (Sub.cons rfl (Sub.nil _))))) ?_
        refine TC.skip ?_
        refine AtX.blk ?_
        refine AtX.then ?_
        refine TC.env (E' := [(2, _), (3, _), (8, _), (9, _)]) (Sub.cons rfl (Sub.cons rfl (Sub.cons rfl (Sub.cons rfl (Sub.nil _))))) ?_
        refine TC.seq ?_
        refine TC.region ?_
        refine TL.val rfl rfl (Nat.le_of_ble_eq_true rfl) (Val.move rfl) ?_
        refine TL.val rfl rfl (Nat.le_of_ble_eq_true rfl) (Val.move rfl) ?_
        refine TL.val rfl rfl (Nat.le_of_ble_eq_true rfl) (Val.move rfl) ?_
        refine TL.val rfl rfl (Nat.le_of_ble_eq_true rfl) (Val.buildS pl161 ze161 rfl rfl) ?_
        refine TL.val rfl rfl (Nat.le_of_ble_eq_true rfl) (Val.nilCheck rfl) ?_
        refine TL.does none rfl rfl rfl (Does.storeR j rfl rfl hj sz161 rfl rfl (by rw [flat_len On.cs_len]; omega) (flat_set On.cs_len hkl ⟨gen, now⟩)) ?_
        rintro _ _ ⟨rfl, rfl⟩
        refine TL.nil ?_
        refine AtX.then ?_
        refine TC.env (E' := [(8, _)]) (Sub.cons rfl (Sub.nil _)) ?_
        refine TC.seq ?_
        refine TC.region ?_
        refine TL.val rfl rfl (Nat.le_of_ble_eq_true rfl) (Val.assign rfl) ?_
        refine TL.nil ?_
        refine AtX.then ?_
        refine TC.env (E' := [(8, _)]) (Sub.cons rfl (Sub.nil _)) ?_
        refine TC.ret1 (fn := Try.f67) (fun _ _ h => h) rfl (RV.tmp rfl) (fun _ h => h) ?_
        exact ⟨rfl, rfl⟩

/-- quorumite/quorumitelaw8.out -/
theorem out_fn (k : Int) (M : Hp) : FnC Try.prog 41 #[.int .i64 k] M (fun v M' => v = .bool (decide (k = 2)) ∧ M = M') := by
  refine FnC.intro Try.func41 rfl 5 rfl (by simp) (fun z => ?_)
  refine TC.env (E' := [(0, _)]) (Sub.cons rfl (Sub.nil _)) ?_
  refine TC.seq ?_
  refine TC.region ?_
  refine TL.val rfl rfl (Nat.le_of_ble_eq_true rfl) (Val.assign rfl) ?_
  refine TL.nil ?_
  refine AtX.then ?_
  refine TC.seq ?_
  refine TC.region ?_
  refine TL.val rfl rfl (Nat.le_of_ble_eq_true rfl) (Val.move rfl) ?_
  refine TL.val rfl rfl (Nat.le_of_ble_eq_true rfl) (Val.eqlI rfl rfl) ?_
  refine TL.val rfl rfl (Nat.le_of_ble_eq_true rfl) (Val.assign rfl) ?_
  refine TL.nil ?_
  refine AtX.then ?_
  refine TC.env (E' := [(2, _)]) (Sub.cons rfl (Sub.nil _)) ?_
  refine TC.ret1 (fn := Try.f41) (fun _ _ h => h) rfl (RV.tmp rfl) (fun _ h => h) ?_
  exact ⟨rfl, rfl⟩

end Go.Proofs.Ytphoapajlcaoeaa
/- walks -/
set_option linter.unusedVariables false
set_option linter.unusedSimpArgs false
set_option maxRecDepth 100000
set_option maxHeartbeats 4000000
namespace Go.Proofs.Ytphoapajlcaoeaa
open Go Go.X
abbrev gateO (gb : Nat) (c : Cf) (rb : Nat) (A : Option Addr) (n1 c1 : Nat) (B : Option Addr) (n2 c2 : Nat) (ref : Int) : Nat × Obj := (gb, .cells #[.int .i64 (c.n), .int .i64 (c.f), .int .i64 (c.m), .int .i64 (c.quorum), .int .i64 (c.fresh), .int .i64 (c.grace), .int .i64 (c.window), .int .i64 (c.t0), .int .i64 (c.t1), .int .i64 (c.t2), .int .i64 (c.t3), .int .i64 (c.tol), .int .i64 (c.min), .int .i64 (c.max), .int .i64 (c.calmup), .int .i64 (c.calmdown), .int .i64 (c.podsup), .int .i64 (c.pctup), .int .i64 (c.podsdown), .int .i64 (c.pctdown), .int .i64 (c.period), .int .i64 (c.far), .int .i64 (c.strikes), .int .i64 (c.probe), .int .i64 (c.sectors), .int .u64 (c.seed), .pointer (some ⟨rb, 0, none⟩), .slice A n1 c1, .slice B n2 c2, .int .i64 ref] 117 (0, 0))
abbrev pp (b : Nat) : Value := .pointer (some ⟨b, 0, none⟩)
/-- quorumite/verify.New -/
theorem gNew_fn (c : Cf) (N : Nat) (M : Hp) (hc : OkC c) (hN : c.n = N) : FnC Try.prog 29 #[.agg #[.int .i64 (c.n), .int .i64 (c.f), .int .i64 (c.m), .int .i64 (c.quorum), .int .i64 (c.fresh), .int .i64 (c.grace), .int .i64 (c.window), .int .i64 (c.t0), .int .i64 (c.t1), .int .i64 (c.t2), .int .i64 (c.t3), .int .i64 (c.tol), .int .i64 (c.min), .int .i64 (c.max), .int .i64 (c.calmup), .int .i64 (c.calmdown), .int .i64 (c.podsup), .int .i64 (c.pctup), .int .i64 (c.podsdown), .int .i64 (c.pctdown), .int .i64 (c.period), .int .i64 (c.far), .int .i64 (c.strikes), .int .i64 (c.probe), .int .i64 (c.sectors), .int .u64 (c.seed)]] M (fun v M' => ∃ (gb rb lb nb cn : Nat) (sn : List Value) (ob co : Nat) (so : List Value) (nws ols : List Nat), v = .pointer (some ⟨gb, 0, none⟩) ∧ nws.length = N ∧ ols.length = N ∧ M' = gateO gb c rb (some ⟨nb, 0, none⟩) N cn (some ⟨ob, 0, none⟩) N co 0 :: ringO rb c.seed lb N c.grace 0 :: (lb, row 161 ((List.replicate N (⟨0, 0⟩ : On)).flatMap On.cs)) :: (nb, row 118 (nws.map pp ++ sn)) :: (ob, row 118 (ols.map pp ++ so)) :: ((nws.map fun p => repO p c.window 0 0 0) ++ ((ols.map fun p => repO p c.window 0 0 0) ++ M))) := by
  have hn16 := hc.n
  have hgr := hc.grace
  have hwin := hc.window
  refine FnC.intro Try.func29 rfl 47 rfl (by simp) (fun z => ?_)
  refine TC.env (E' := [(0, _)]) (Sub.cons rfl (Sub.nil _)) ?_
  refine TC.seq ?_
  refine TC.region ?_
  refine TL.does (some 1) rfl rfl rfl (Does.box rfl rfl) ?_
  rintro _ _ ⟨b1, rfl, rfl⟩
  refine TL.val rfl rfl (Nat.le_of_ble_eq_true rfl) (Val.assign rfl) ?_
  refine TL.nil ?_
  refine AtX.then ?_
  refine TC.env (E' := [(1, _), (2, _)]) (Sub.cons rfl (Sub.cons rfl (Sub.nil _))) ?_
  refine TC.seq ?_
  refine TC.seq ?_
  refine TC.region ?_
  refine TL.val rfl rfl (Nat.le_of_ble_eq_true rfl) (Val.loadAgg 0 rfl ag26 sz26 rfl rfl rfl) ?_
  refine TL.does (some 5) rfl rfl rfl (Does.callF go44 rfl (cMay_ok c _ hc)) ?_
  rintro _ _ ⟨rfl, rfl⟩
  refine TL.val rfl rfl (Nat.le_of_ble_eq_true rfl) (Val.not rfl) ?_
  refine TL.nil ?_
  refine AtX.then ?_
  refine TC.env (E' := [(1, _), (2, _), (6, _)]) (Sub.cons rfl (Sub.cons rfl (Sub.cons rfl (Sub.nil _)))) ?_
  first | refine TC.condP rfl (fun c1 => ?_) (fun c1 => ?_) | refine TC.condN rfl (fun c1 => ?_) (fun c1 => ?_) | refine TC.condB rfl (fun c1 => ?_) (fun c1 => ?_) | refine TC.cond rfl (fun c1 => ?_) (fun c1 => ?_)
  · skip
    cases c1
  · skip
    refine TC.env (E' := [(1, _), (2, _)]) (Sub.cons rfl (Sub.cons rfl (Sub.nil _))) ?_
    refine TC.skip ?_
    refine AtX.then ?_
    refine TC.env (E' := [(1, _), (2, _)]) (Sub.cons rfl (Sub.cons rfl (Sub.nil _))) ?_
    refine TC.seq ?_
    refine TC.drawL ((b1, .cells #[.int .i64 (c.n), .int .i64 (c.f), .int .i64 (c.m), .int .i64 (c.quorum), .int .i64 (c.fresh), .int .i64 (c.grace), .int .i64 (c.window), .int .i64 (c.t0), .int .i64 (c.t1), .int .i64 (c.t2), .int .i64 (c.t3), .int .i64 (c.tol), .int .i64 (c.min), .int .i64 (c.max), .int .i64 (c.calmup), .int .i64 (c.calmdown), .int .i64 (c.podsup), .int .i64 (c.pctup), .int .i64 (c.podsdown), .int .i64 (c.pctdown), .int .i64 (c.period), .int .i64 (c.far), .int .i64 (c.strikes), .int .i64 (c.probe), .int .i64 (c.sectors), .int .u64 (c.seed)] 26 (0, 0)) :: M) mixed 11 ?_
    refine TA.tk 0 1 rfl rfl rfl (Val.loadAgg (vs := [.int .i64 (c.n), .int .i64 (c.f), .int .i64 (c.m), .int .i64 (c.quorum), .int .i64 (c.fresh), .int .i64 (c.grace), .int .i64 (c.window), .int .i64 (c.t0), .int .i64 (c.t1), .int .i64 (c.t2), .int .i64 (c.t3), .int .i64 (c.tol), .int .i64 (c.min), .int .i64 (c.max), .int .i64 (c.calmup), .int .i64 (c.calmdown), .int .i64 (c.podsup), .int .i64 (c.pctup), .int .i64 (c.podsdown), .int .i64 (c.pctdown), .int .i64 (c.period), .int .i64 (c.far), .int .i64 (c.strikes), .int .i64 (c.probe), .int .i64 (c.sectors), .int .u64 (c.seed)]) 0 rfl ag26 sz26 rfl rfl rfl) ?_
    refine TA.tk 1 3 rfl rfl rfl (Val.fieldAddr rfl fl26_22 sz24 rfl) ?_
    refine TA.tk 2 7 rfl rfl rfl (Val.load 0 rfl ag24 rfl rfl) ?_
    refine TA.tk 3 15 rfl rfl rfl (Val.fieldAddr rfl fl26_0 sz3 rfl) ?_
    refine TA.tk 4 31 rfl rfl rfl (Val.same (v' := .int .i64 (N : Nat)) (Val.load 0 rfl ag3 rfl rfl) (by rw [hN])) ?_
    refine TA.tk 5 63 rfl rfl rfl (Val.fieldAddr rfl fl26_5 sz3 rfl) ?_
    refine TA.tk 6 127 rfl rfl rfl (Val.load 0 rfl ag3 rfl rfl) ?_
    refine TA.one 7 (by kernel_rfl) ?_
    refine TO.dz 255 (some 14) rfl rfl rfl rfl (Does.callF go60 rfl (rNew_fn c.seed N c.grace _ ⟨by omega, by omega⟩ hgr)) ?_
    rintro _ _ ⟨rb, lb, rfl, rfl⟩
    refine roK ?_
    refine TA.tk 8 511 rfl rfl rfl (Val.buildS (cs := [.int .i64 (c.n), .int .i64 (c.f), .int .i64 (c.m), .int .i64 (c.quorum), .int .i64 (c.fresh), .int .i64 (c.grace), .int .i64 (c.window), .int .i64 (c.t0), .int .i64 (c.t1), .int .i64 (c.t2), .int .i64 (c.t3), .int .i64 (c.tol), .int .i64 (c.min), .int .i64 (c.max), .int .i64 (c.calmup), .int .i64 (c.calmdown), .int .i64 (c.podsup), .int .i64 (c.pctup), .int .i64 (c.podsdown), .int .i64 (c.pctdown), .int .i64 (c.period), .int .i64 (c.far), .int .i64 (c.strikes), .int .i64 (c.probe), .int .i64 (c.sectors), .int .u64 (c.seed), .pointer (some ⟨rb, 0, none⟩), .slice none 0 0, .slice none 0 0, .int .i64 0]) pl117 ze117 rfl (fill_step (pre := []) (mid := [.int .i64 (0), .int .i64 (0), .int .i64 (0), .int .i64 (0), .int .i64 (0), .int .i64 (0), .int .i64 (0), .int .i64 (0), .int .i64 (0), .int .i64 (0), .int .i64 (0), .int .i64 (0), .int .i64 (0), .int .i64 (0), .int .i64 (0), .int .i64 (0), .int .i64 (0), .int .i64 (0), .int .i64 (0), .int .i64 (0), .int .i64 (0), .int .i64 (0), .int .i64 (0), .int .i64 (0), .int .i64 (0), .int .u64 (0)]) (post := [.pointer none, .slice none 0 0, .slice none 0 0, .int .i64 0]) rfl rfl rfl rfl (fill_step (pre := [.int .i64 (c.n), .int .i64 (c.f), .int .i64 (c.m), .int .i64 (c.quorum), .int .i64 (c.fresh), .int .i64 (c.grace), .int .i64 (c.window), .int .i64 (c.t0), .int .i64 (c.t1), .int .i64 (c.t2), .int .i64 (c.t3), .int .i64 (c.tol), .int .i64 (c.min), .int .i64 (c.max), .int .i64 (c.calmup), .int .i64 (c.calmdown), .int .i64 (c.podsup), .int .i64 (c.pctup), .int .i64 (c.podsdown), .int .i64 (c.pctdown), .int .i64 (c.period), .int .i64 (c.far), .int .i64 (c.strikes), .int .i64 (c.probe), .int .i64 (c.sectors), .int .u64 (c.seed)]) (mid := [.pointer none]) (post := [.slice none 0 0, .slice none 0 0, .int .i64 0]) rfl rfl rfl rfl rfl))) ?_
    refine TA.one 9 (by kernel_rfl) ?_
    refine TO.dz 1023 (some 16) rfl rfl rfl rfl (Does.box rfl rfl) ?_
    rintro _ _ ⟨gb, rfl, rfl⟩
    refine roK ?_
    refine TA.tk 10 2047 rfl rfl rfl (Val.assign rfl) ?_
    refine TA.done (by kernel_rfl) ?_
    refine AtX.then ?_
    refine TC.env (E' := [(1, _), (2, _), (3, _)]) (Sub.cons rfl (Sub.cons rfl (Sub.cons rfl (Sub.nil _)))) ?_
    refine TC.seq ?_
    refine TC.seq ?_
    refine TC.heap (M' := gateO gb c rb none 0 0 none 0 0 0 :: ringO rb c.seed lb N c.grace 0 :: (lb, row 161 ((List.replicate N (⟨0, 0⟩ : On)).flatMap On.cs)) :: (b1, .cells #[.int .i64 (c.n), .int .i64 (c.f), .int .i64 (c.m), .int .i64 (c.quorum), .int .i64 (c.fresh), .int .i64 (c.grace), .int .i64 (c.window), .int .i64 (c.t0), .int .i64 (c.t1), .int .i64 (c.t2), .int .i64 (c.t3), .int .i64 (c.tol), .int .i64 (c.min), .int .i64 (c.max), .int .i64 (c.calmup), .int .i64 (c.calmdown), .int .i64 (c.podsup), .int .i64 (c.pctup), .int .i64 (c.podsdown), .int .i64 (c.pctdown), .int .i64 (c.period), .int .i64 (c.far), .int .i64 (c.strikes), .int .i64 (c.probe), .int .i64 (c.sectors), .int .u64 (c.seed)] 26 (0, 0)) :: M) (fun w h => h) ?_
    refine TC.region ?_
    refine TL.val rfl rfl (Nat.le_of_ble_eq_true rfl) (Val.fieldAddr rfl fl26_0 sz3 rfl) ?_
    refine TL.val rfl rfl (Nat.le_of_ble_eq_true rfl) (Val.load 3 rfl ag3 rfl rfl) ?_
    refine TL.val rfl rfl (Nat.le_of_ble_eq_true rfl) (Val.move rfl) ?_
    refine TL.nil ?_
    refine AtX.then ?_
    refine TC.env (E' := [(1, _), (2, _), (3, _), (18, _), (19, _)]) (Sub.cons rfl (Sub.cons rfl (Sub.cons rfl (Sub.cons rfl (Sub.cons rfl (Sub.nil _)))))) ?_
    refine TC.block ?_
    refine TC.loop (ι := (Nat × Sl × Sl × List Nat × List Nat)) (fun i => [(1, .pointer (some ⟨b1, 0, none⟩)), (3, .pointer (some ⟨gb, 0, none⟩)), (18, .int .i64 c.n), (19, .int .i64 (i.1 : Nat))]) (fun i => gateO gb c rb (slA i.2.1) i.1 (slC i.2.1) (slA i.2.2.1) i.1 (slC i.2.2.1) 0 :: ringO rb c.seed lb N c.grace 0 :: (lb, row 161 ((List.replicate N (⟨0, 0⟩ : On)).flatMap On.cs)) :: (b1, .cells #[.int .i64 (c.n), .int .i64 (c.f), .int .i64 (c.m), .int .i64 (c.quorum), .int .i64 (c.fresh), .int .i64 (c.grace), .int .i64 (c.window), .int .i64 (c.t0), .int .i64 (c.t1), .int .i64 (c.t2), .int .i64 (c.t3), .int .i64 (c.tol), .int .i64 (c.min), .int .i64 (c.max), .int .i64 (c.calmup), .int .i64 (c.calmdown), .int .i64 (c.podsup), .int .i64 (c.pctup), .int .i64 (c.podsdown), .int .i64 (c.pctdown), .int .i64 (c.period), .int .i64 (c.far), .int .i64 (c.strikes), .int .i64 (c.probe), .int .i64 (c.sectors), .int .u64 (c.seed)] 26 (0, 0)) :: (slH i.2.1 118 (i.2.2.2.1.map pp) ++ (slH i.2.2.1 118 (i.2.2.2.2.map pp) ++ ((i.2.2.2.1.map fun p => repO p c.window 0 0 0) ++ ((i.2.2.2.2.map fun p => repO p c.window 0 0 0) ++ M))))) (fun i => i.1 ≤ N ∧ i.2.2.2.1.length = i.1 ∧ i.2.2.2.2.length = i.1 ∧ slOk i.2.1 1 i.1 (i.2.2.2.1.map pp) ∧ slOk i.2.2.1 1 i.1 (i.2.2.2.2.map pp)) (fun i => N - i.1) (0, none, none, [], []) ?_ (Sub.cons rfl (Sub.cons rfl (Sub.cons rfl (Sub.cons rfl (Sub.nil _))))) (fun _ h => h) ?_
    · exact ⟨by omega, rfl, rfl, slOk_nil 1, slOk_nil 1⟩
    rintro ⟨k, σ, τ, nws, ols⟩ ⟨hk, hnl, hol, hok, hokt⟩
    dsimp only at hk hnl hol hok hokt ⊢
    refine TC.seq ?_
    refine TC.region ?_
    refine TL.val rfl rfl (Nat.le_of_ble_eq_true rfl) (Val.lss rfl rfl) ?_
    refine TL.nil ?_
    refine AtX.then ?_
    refine TC.seq ?_
    first | refine TC.condP rfl (fun c2 => ?_) (fun c2 => ?_) | refine TC.condN rfl (fun c2 => ?_) (fun c2 => ?_) | refine TC.condB rfl (fun c2 => ?_) (fun c2 => ?_) | refine TC.cond rfl (fun c2 => ?_) (fun c2 => ?_)
    · skip
      refine TC.skip ?_
      refine AtX.then ?_
      refine TC.seq ?_
      refine TC.block ?_
      refine TC.drawGM [22, 25] [gateO gb c rb (slA σ) k (slC σ) (slA τ) k (slC τ) 0, ringO rb c.seed lb N c.grace 0, (lb, row 161 ((List.replicate N (⟨0, 0⟩ : On)).flatMap On.cs)), (b1, .cells #[.int .i64 (c.n), .int .i64 (c.f), .int .i64 (c.m), .int .i64 (c.quorum), .int .i64 (c.fresh), .int .i64 (c.grace), .int .i64 (c.window), .int .i64 (c.t0), .int .i64 (c.t1), .int .i64 (c.t2), .int .i64 (c.t3), .int .i64 (c.tol), .int .i64 (c.min), .int .i64 (c.max), .int .i64 (c.calmup), .int .i64 (c.calmdown), .int .i64 (c.podsup), .int .i64 (c.pctup), .int .i64 (c.podsdown), .int .i64 (c.pctdown), .int .i64 (c.period), .int .i64 (c.far), .int .i64 (c.strikes), .int .i64 (c.probe), .int .i64 (c.sectors), .int .u64 (c.seed)] 26 (0, 0))] [(b1, .cells #[.int .i64 (c.n), .int .i64 (c.f), .int .i64 (c.m), .int .i64 (c.quorum), .int .i64 (c.fresh), .int .i64 (c.grace), .int .i64 (c.window), .int .i64 (c.t0), .int .i64 (c.t1), .int .i64 (c.t2), .int .i64 (c.t3), .int .i64 (c.tol), .int .i64 (c.min), .int .i64 (c.max), .int .i64 (c.calmup), .int .i64 (c.calmdown), .int .i64 (c.podsup), .int .i64 (c.pctup), .int .i64 (c.podsdown), .int .i64 (c.pctdown), .int .i64 (c.period), .int .i64 (c.far), .int .i64 (c.strikes), .int .i64 (c.probe), .int .i64 (c.sectors), .int .u64 (c.seed)] 26 (0, 0))] mixed 26 ?_
      refine TG.tk false 0 1 rfl rfl rfl (Val.move rfl) ?_ (hro := (by repeat (first | exact Go.X.ro_pre4 | exact Go.X.ro_pre1 | refine Go.X.ro_tail ?_ | refine Go.X.ro_app ?_)))
      refine TG.tw false 1 3 rfl rfl rfl (Val.move rfl) ?_ (hro := (by repeat (first | exact Go.X.ro_pre4 | exact Go.X.ro_pre1 | refine Go.X.ro_tail ?_ | refine Go.X.ro_app ?_)))
      refine TG.tk false 2 7 rfl rfl rfl (Val.move rfl) ?_ (hro := (by repeat (first | exact Go.X.ro_pre4 | exact Go.X.ro_pre1 | refine Go.X.ro_tail ?_ | refine Go.X.ro_app ?_)))
      refine TG.tk false 3 15 rfl rfl rfl (Val.nilCheck rfl) ?_ (hro := (by repeat (first | exact Go.X.ro_pre4 | exact Go.X.ro_pre1 | refine Go.X.ro_tail ?_ | refine Go.X.ro_app ?_)))
      refine TG.tk false 4 31 rfl rfl rfl (Val.fieldAddr rfl fl117_2 sz115 rfl) ?_ (hro := (by repeat (first | exact Go.X.ro_pre4 | exact Go.X.ro_pre1 | refine Go.X.ro_tail ?_ | refine Go.X.ro_app ?_)))
      refine TG.tk false 5 63 rfl rfl rfl (Val.load 0 rfl ag115 rfl rfl) ?_ (hro := (by repeat (first | exact Go.X.ro_pre4 | exact Go.X.ro_pre1 | refine Go.X.ro_tail ?_ | refine Go.X.ro_app ?_)))
      refine TG.tk false 6 127 rfl rfl rfl (Val.fieldAddr rfl fl26_6 sz3 rfl) ?_ (hro := (by repeat (first | exact Go.X.ro_pre4 | exact Go.X.ro_pre1 | refine Go.X.ro_tail ?_ | refine Go.X.ro_app ?_)))
      refine TG.tk false 7 255 rfl rfl rfl (Val.load 3 rfl ag3 rfl rfl) ?_ (hro := (by repeat (first | exact Go.X.ro_pre4 | exact Go.X.ro_pre1 | refine Go.X.ro_tail ?_ | refine Go.X.ro_app ?_)))
      refine TG.tw false 11 2303 rfl rfl rfl (Val.move rfl) ?_ (hro := (by repeat (first | exact Go.X.ro_pre4 | exact Go.X.ro_pre1 | refine Go.X.ro_tail ?_ | refine Go.X.ro_app ?_)))
      refine TG.tw false 12 6399 rfl rfl rfl (Val.nilCheck rfl) ?_ (hro := (by repeat (first | exact Go.X.ro_pre4 | exact Go.X.ro_pre1 | refine Go.X.ro_tail ?_ | refine Go.X.ro_app ?_)))
      refine TG.tw false 13 14591 rfl rfl rfl (Val.fieldAddr rfl fl117_3 sz115 rfl) ?_ (hro := (by repeat (first | exact Go.X.ro_pre4 | exact Go.X.ro_pre1 | refine Go.X.ro_tail ?_ | refine Go.X.ro_app ?_)))
      refine TG.tk false 14 30975 rfl rfl rfl (Val.load 0 rfl ag115 rfl rfl) ?_ (hro := (by repeat (first | exact Go.X.ro_pre4 | exact Go.X.ro_pre1 | refine Go.X.ro_tail ?_ | refine Go.X.ro_app ?_)))
      refine TG.tw false 15 63743 rfl rfl rfl (Val.fieldAddr rfl fl26_6 sz3 rfl) ?_ (hro := (by repeat (first | exact Go.X.ro_pre4 | exact Go.X.ro_pre1 | refine Go.X.ro_tail ?_ | refine Go.X.ro_app ?_)))
      refine TG.tw false 16 129279 rfl rfl rfl (Val.load 0 rfl ag3 rfl rfl) ?_ (hro := (by repeat (first | exact Go.X.ro_pre4 | exact Go.X.ro_pre1 | refine Go.X.ro_tail ?_ | refine Go.X.ro_app ?_)))
      refine TG.one 8 (by kernel_rfl) ?_
      refine TP.dz false 129535 (some 29) rfl rfl rfl rfl (Does.callF go61 rfl (pNew_fn c.window _ hwin)) ?_
      rintro _ _ ⟨pb, rfl, rfl⟩
      refine ⟨(by repeat (first | exact Go.X.ro_pre4 | exact Go.X.ro_pre1 | refine Go.X.ro_tail ?_ | refine Go.X.ro_app ?_)), ?_⟩
      refine TG.one 9 (by kernel_rfl) ?_
      refine TP.dz false 130047 (some 30) rfl rfl rfl rfl (Does.buildSlice sl115 sz118 ze118 (by decide) (by decide) rfl rfl rfl) ?_
      rintro _ _ ⟨bt, rfl, rfl⟩
      refine ⟨(by repeat (first | exact Go.X.ro_pre4 | exact Go.X.ro_pre1 | refine Go.X.ro_tail ?_ | refine Go.X.ro_app ?_)), ?_⟩
      refine TG.one 10 (by kernel_rfl) ?_
      refine TP.dz false 131071 (some 31) rfl rfl rfl rfl (Does.appendS (xs := nws.map pp) (ys := [.pointer (some ⟨pb, 0, none⟩)]) σ (repO pb c.window 0 0 0 :: gateO gb c rb (slA σ) k (slC σ) (slA τ) k (slC τ) 0 :: ringO rb c.seed lb N c.grace 0 :: (lb, row 161 ((List.replicate N (⟨0, 0⟩ : On)).flatMap On.cs)) :: (b1, .cells #[.int .i64 (c.n), .int .i64 (c.f), .int .i64 (c.m), .int .i64 (c.quorum), .int .i64 (c.fresh), .int .i64 (c.grace), .int .i64 (c.window), .int .i64 (c.t0), .int .i64 (c.t1), .int .i64 (c.t2), .int .i64 (c.t3), .int .i64 (c.tol), .int .i64 (c.min), .int .i64 (c.max), .int .i64 (c.calmup), .int .i64 (c.calmdown), .int .i64 (c.podsup), .int .i64 (c.pctup), .int .i64 (c.podsdown), .int .i64 (c.pctdown), .int .i64 (c.period), .int .i64 (c.far), .int .i64 (c.strikes), .int .i64 (c.probe), .int .i64 (c.sectors), .int .u64 (c.seed)] 26 (0, 0)) :: (slH τ 118 (ols.map pp) ++ ((nws.map fun p => repO p c.window 0 0 0) ++ ((ols.map fun p => repO p c.window 0 0 0) ++ M)))) (fun w h => ro_mv (A := [_, _, _, _, _]) w h.drop) rfl rfl sl115 sz118 by118 ze118 rfl hok (.inl ⟨_, _, rfl, ⟨118, us115⟩, .some (Rd.get (i := 0) rfl rfl)⟩) rfl (one_ptr pb) (by omega) (by omega)) ?_
      rintro _ _ ⟨σ1, rfl, hok1, rfl⟩
      refine ⟨(by repeat (first | exact Go.X.ro_pre4 | exact Go.X.ro_pre1 | refine Go.X.ro_tail ?_ | refine Go.X.ro_app ?_)), ?_⟩
      refine TG.one 17 (by kernel_rfl) ?_
      refine TP.dz false 262143 (some 38) rfl rfl rfl rfl (Does.callF go61 rfl (pNew_fn c.window _ hwin)) ?_
      rintro _ _ ⟨qb, rfl, rfl⟩
      refine ⟨(by repeat (first | exact Go.X.ro_pre4 | exact Go.X.ro_pre1 | refine Go.X.ro_tail ?_ | refine Go.X.ro_app ?_)), ?_⟩
      refine TG.one 18 (by kernel_rfl) ?_
      refine TP.dz false 524287 (some 39) rfl rfl rfl rfl (Does.buildSlice sl115 sz118 ze118 (by decide) (by decide) rfl rfl rfl) ?_
      rintro _ _ ⟨bu, rfl, rfl⟩
      refine ⟨(by repeat (first | exact Go.X.ro_pre4 | exact Go.X.ro_pre1 | refine Go.X.ro_tail ?_ | refine Go.X.ro_app ?_)), ?_⟩
      refine TG.one 19 (by kernel_rfl) ?_
      refine TP.dz false 1048575 (some 40) rfl rfl rfl rfl (Does.appendS (xs := ols.map pp) (ys := [.pointer (some ⟨qb, 0, none⟩)]) τ (repO qb c.window 0 0 0 :: (slH σ1 118 (nws.map pp ++ [.pointer (some ⟨pb, 0, none⟩)]) ++ (repO pb c.window 0 0 0 :: gateO gb c rb (slA σ) k (slC σ) (slA τ) k (slC τ) 0 :: ringO rb c.seed lb N c.grace 0 :: (lb, row 161 ((List.replicate N (⟨0, 0⟩ : On)).flatMap On.cs)) :: (b1, .cells #[.int .i64 (c.n), .int .i64 (c.f), .int .i64 (c.m), .int .i64 (c.quorum), .int .i64 (c.fresh), .int .i64 (c.grace), .int .i64 (c.window), .int .i64 (c.t0), .int .i64 (c.t1), .int .i64 (c.t2), .int .i64 (c.t3), .int .i64 (c.tol), .int .i64 (c.min), .int .i64 (c.max), .int .i64 (c.calmup), .int .i64 (c.calmdown), .int .i64 (c.podsup), .int .i64 (c.pctup), .int .i64 (c.podsdown), .int .i64 (c.pctdown), .int .i64 (c.period), .int .i64 (c.far), .int .i64 (c.strikes), .int .i64 (c.probe), .int .i64 (c.sectors), .int .u64 (c.seed)] 26 (0, 0)) :: ((nws.map fun p => repO p c.window 0 0 0) ++ ((ols.map fun p => repO p c.window 0 0 0) ++ M))))) (fun w h => ro_mv2 w h.drop) rfl rfl sl115 sz118 by118 ze118 rfl hokt (.inl ⟨_, _, rfl, ⟨118, us115⟩, .some (Rd.get (i := 0) rfl rfl)⟩) rfl (one_ptr qb) (by omega) (by omega)) ?_
      rintro _ _ ⟨τ1, rfl, hokt1, rfl⟩
      refine ⟨(by repeat (first | exact Go.X.ro_pre4 | exact Go.X.ro_pre1 | refine Go.X.ro_tail ?_ | refine Go.X.ro_app ?_)), ?_⟩
      refine TG.heap (M' := gateO gb c rb (slA σ) k (slC σ) (slA τ) k (slC τ) 0 :: ringO rb c.seed lb N c.grace 0 :: (lb, row 161 ((List.replicate N (⟨0, 0⟩ : On)).flatMap On.cs)) :: (b1, .cells #[.int .i64 (c.n), .int .i64 (c.f), .int .i64 (c.m), .int .i64 (c.quorum), .int .i64 (c.fresh), .int .i64 (c.grace), .int .i64 (c.window), .int .i64 (c.t0), .int .i64 (c.t1), .int .i64 (c.t2), .int .i64 (c.t3), .int .i64 (c.tol), .int .i64 (c.min), .int .i64 (c.max), .int .i64 (c.calmup), .int .i64 (c.calmdown), .int .i64 (c.podsup), .int .i64 (c.pctup), .int .i64 (c.podsdown), .int .i64 (c.pctdown), .int .i64 (c.period), .int .i64 (c.far), .int .i64 (c.strikes), .int .i64 (c.probe), .int .i64 (c.sectors), .int .u64 (c.seed)] 26 (0, 0)) :: (slH σ1 118 (nws.map pp ++ [.pointer (some ⟨pb, 0, none⟩)]) ++ (slH τ1 118 (ols.map pp ++ [.pointer (some ⟨qb, 0, none⟩)]) ++ (repO pb c.window 0 0 0 :: repO qb c.window 0 0 0 :: ((nws.map fun p => repO p c.window 0 0 0) ++ ((ols.map fun p => repO p c.window 0 0 0) ++ M)))))) ro_gt ?_
      refine TG.tw false 20 2097151 rfl rfl rfl (Val.nilCheck rfl) ?_ (hro := (by repeat (first | exact Go.X.ro_pre4 | exact Go.X.ro_pre1 | refine Go.X.ro_tail ?_ | refine Go.X.ro_app ?_)))
      refine TG.tk false 21 4194303 rfl rfl rfl (Val.fieldAddr rfl fl117_2 sz115 rfl) ?_ (hro := (by repeat (first | exact Go.X.ro_pre4 | exact Go.X.ro_pre1 | refine Go.X.ro_tail ?_ | refine Go.X.ro_app ?_)))
      refine TG.one 22 (by kernel_rfl) ?_
      refine TP.dz true 8388607 none rfl rfl rfl rfl (Does.store (i := 0) rfl rfl rfl sz115 rfl rfl (by first | exact Nat.le_of_ble_eq_true rfl | decide | omega) rfl rfl) ?_
      rintro _ _ ⟨rfl, rfl⟩
      refine ⟨(by repeat (first | exact Go.X.ro_pre4 | exact Go.X.ro_pre1 | refine Go.X.ro_tail ?_ | refine Go.X.ro_app ?_)), ?_⟩
      refine TG.tk true 23 16777215 rfl rfl rfl (Val.nilCheck rfl) ?_ (hro := (by repeat (first | exact Go.X.ro_pre4 | exact Go.X.ro_pre1 | refine Go.X.ro_tail ?_ | refine Go.X.ro_app ?_)))
      refine TG.tk true 24 33554431 rfl rfl rfl (Val.fieldAddr rfl fl117_3 sz115 rfl) ?_ (hro := (by repeat (first | exact Go.X.ro_pre4 | exact Go.X.ro_pre1 | refine Go.X.ro_tail ?_ | refine Go.X.ro_app ?_)))
      refine TG.one 25 (by kernel_rfl) ?_
      refine TP.dz true 67108863 none rfl rfl rfl rfl (Does.store (i := 0) rfl rfl rfl sz115 rfl rfl (by first | exact Nat.le_of_ble_eq_true rfl | decide | omega) rfl rfl) ?_
      rintro _ _ ⟨rfl, rfl⟩
      refine ⟨(by repeat (first | exact Go.X.ro_pre4 | exact Go.X.ro_pre1 | refine Go.X.ro_tail ?_ | refine Go.X.ro_app ?_)), ?_⟩
      refine TG.done (by kernel_rfl) ?_ _
      refine AtX.blk ?_
      refine AtX.then ?_
      refine TC.region ?_
      refine TL.val rfl rfl (Nat.le_of_ble_eq_true rfl) (Val.add rfl rfl (w_i64 (by omega) (by omega))) ?_
      refine TL.val rfl rfl (Nat.le_of_ble_eq_true rfl) (Val.move rfl) ?_
      refine TL.nil ?_
      refine AtX.round (i := (k, σ, τ, nws, ols)) (k + 1, σ1, τ1, nws ++ [pb], ols ++ [qb]) ?_ ?_ (Sub.cons rfl (Sub.cons rfl (Sub.cons rfl (Sub.cons rfl (Sub.nil _))))) (fun w h => by dsimp only; rw [List.map_append, List.map_append, List.map_append, List.map_append]; exact ro_gi (A := [_, _, _, _]) w h)
      · exact ⟨by omega, by simp [hnl], by simp [hol], by dsimp only; rw [List.map_append]; exact hok1, by dsimp only; rw [List.map_append]; exact hokt1⟩
      · show N - (k + 1) < N - k; omega
    · skip
      refine TC.exit ?_
      refine AtX.seqX ?_
      refine AtX.seqX ?_
      refine AtX.hit ?_
      refine AtX.then ?_
      refine TC.env (E' := [(3, _)]) (Sub.cons rfl (Sub.nil _)) ?_
      refine TC.seq ?_
      have hkN : k = N := by omega
      subst hkN
      obtain ⟨nb, cn, sn, rfl, hcn⟩ := hok.some (by omega)
      obtain ⟨ob, co, so, rfl, hco⟩ := hokt.some (by omega)
      refine TC.region ?_
      refine TL.val rfl rfl (Nat.le_of_ble_eq_true rfl) (Val.move rfl) ?_
      refine TL.val rfl rfl (Nat.le_of_ble_eq_true rfl) (Val.assign rfl) ?_
      refine TL.nil ?_
      refine AtX.then ?_
      refine TC.env (E' := [(2, _)]) (Sub.cons rfl (Sub.nil _)) ?_
      refine TC.ret1 (fn := Try.f29) (fun _ _ h => h) rfl (RV.tmp rfl) (M' := gateO gb c rb (some ⟨nb, 0, none⟩) k cn (some ⟨ob, 0, none⟩) k co 0 :: ringO rb c.seed lb k c.grace 0 :: (lb, row 161 ((List.replicate k (⟨0, 0⟩ : On)).flatMap On.cs)) :: (nb, row 118 (nws.map pp ++ sn)) :: (ob, row 118 (ols.map pp ++ so)) :: ((nws.map fun p => repO p c.window 0 0 0) ++ ((ols.map fun p => repO p c.window 0 0 0) ++ M))) (fun w h => ro_del 3 rfl w h) ?_
      exact ⟨gb, rb, lb, nb, cn, sn, ob, co, so, nws, ols, rfl, hnl, hol, rfl⟩

end Go.Proofs.Ytphoapajlcaoeaa
/- walks -/
set_option linter.unusedVariables false
set_option linter.unusedSimpArgs false
set_option maxRecDepth 100000
set_option maxHeartbeats 4000000
namespace Go.Proofs.Ytphoapajlcaoeaa
open Go Go.X
def sgen (kind gen : Int) : Int := if kind = 2 then gen - 1 else gen
theorem sealed_k (k : Nat) (kind gen sq ep va me : Int) (M : Hp) (hg : -1000000 ≤ gen ∧ gen ≤ 1000000) : FnC Try.prog 96 #[.agg #[.int .i64 kind, .int .i64 ((k : Nat) : Int), .int .i64 gen, .int .i64 sq, .int .i64 ep, .int .i64 va, .int .i64 me]] M (fun v M' => v = .int .i64 (sgen kind gen) ∧ M = M') := sealed_fn ⟨kind, (k : Nat), gen, sq, ep, va, me⟩ M hg
/-- (*quorumite/verify.Gate).key -/
theorem gKey_fn (gb rb lb nb cn ob co : Nat) (sn so : List Value) (c : Cf) (N : Nat) (asked ref : Int) (ones : List On) (nws ols : List Nat) (T : Hp) (hN : c.n = N) (h1 : ones.length = N) (h2 : nws.length = N) (h3 : ols.length = N) (hgr : 1 ≤ c.grace ∧ c.grace ≤ 100) (has : 0 ≤ asked ∧ asked ≤ 100000) (k : Nat) (x : On) (hx : ones[k]? = some x) (hxb : 0 ≤ x.gen ∧ x.gen ≤ 60000) (hxs : 0 ≤ x.since ∧ x.since ≤ 1099511627776) (kind gen sq ep va me : Int) (hgen : -1000000 ≤ gen ∧ gen ≤ 1000000) (hk2 : kind = 2 → gen - 1 = x.gen) (now : Int) : FnC Try.prog 64 #[.pointer (some ⟨gb, 0, none⟩), .agg #[.int .i64 kind, .int .i64 ((k : Nat) : Int), .int .i64 gen, .int .i64 sq, .int .i64 ep, .int .i64 va, .int .i64 me], .int .i64 now] (gateO gb c rb (some ⟨nb, 0, none⟩) N cn (some ⟨ob, 0, none⟩) N co ref :: ringO rb c.seed lb N c.grace asked :: (lb, row 161 (ones.flatMap On.cs)) :: (nb, row 118 (nws.map pp ++ sn)) :: (ob, row 118 (ols.map pp ++ so)) :: T) (fun v M' => v = .tuple #[.agg #[.int .u64 (if okK x (sgen kind gen) now c.grace = true then (macKey c.seed (k : Nat) (sgen kind gen)) else ⟨0, 0⟩).a, .int .u64 (if okK x (sgen kind gen) now c.grace = true then (macKey c.seed (k : Nat) (sgen kind gen)) else ⟨0, 0⟩).b], .int .i64 (if okK x (sgen kind gen) now c.grace = true then 0 else 4)] ∧ M' = (gateO gb c rb (some ⟨nb, 0, none⟩) N cn (some ⟨ob, 0, none⟩) N co ref :: ringO rb c.seed lb N c.grace (asked + 1) :: (lb, row 161 (ones.flatMap On.cs)) :: (nb, row 118 (nws.map pp ++ sn)) :: (ob, row 118 (ols.map pp ++ so)) :: T)) := by
  have hsg : -1000000 ≤ sgen kind gen ∧ sgen kind gen ≤ 1000000 := by unfold sgen; split <;> omega
  refine FnC.intro Try.func64 rfl 36 rfl (by simp) (fun z => ?_)
  refine TC.env (E' := [(0, _), (1, _), (2, _)]) (Sub.cons rfl (Sub.cons rfl (Sub.cons rfl (Sub.nil _)))) ?_
  refine TC.seq ?_
  refine TC.region ?_
  refine TL.does (some 4) rfl rfl rfl (Does.box rfl rfl) ?_
  rintro _ _ ⟨b1, rfl, rfl⟩
  refine TL.does (some 6) rfl rfl rfl (Does.alloc ze69 rfl) ?_
  rintro _ _ ⟨b2, rfl, rfl⟩
  refine TL.val rfl rfl (Nat.le_of_ble_eq_true rfl) (Val.assign rfl) ?_
  refine TL.nil ?_
  refine AtX.then ?_
  refine TC.env (E' := [(0, _), (2, _), (4, _), (6, _), (7, _)]) (Sub.cons rfl (Sub.cons rfl (Sub.cons rfl (Sub.cons rfl (Sub.cons rfl (Sub.nil _)))))) ?_
  refine TC.seq ?_
  refine TC.seq ?_
  refine TC.drawLM mixed 15 ?_
  refine TA.tk 0 1 rfl rfl rfl (Val.fieldAddr rfl fl61_0 sz3 rfl) ?_
  refine TA.tk 1 3 rfl rfl rfl (Val.load 1 rfl ag3 rfl rfl) ?_
  refine TA.tk 2 7 rfl rfl rfl (Val.eqlI rfl rfl) ?_
  refine TA.tk 3 15 rfl rfl rfl (Val.move rfl) ?_
  refine TA.gen (fun g3 hg3 => ?_)
  refine TA.gtk 4 31 rfl rfl rfl rfl rfl (fun hg => by subst hg; exact (Val.loadAgg 1 rfl ag61 sz61 rfl rfl rfl)) ?_
  refine TA.gtk 6 95 rfl rfl rfl rfl rfl (fun hg => by subst hg; exact (Val.move rfl)) ?_
  refine TA.gtk 7 223 rfl rfl rfl rfl rfl (fun hg => by subst hg; exact (Val.nilCheck rfl)) ?_
  refine TA.gtk 8 479 rfl rfl rfl rfl rfl (fun hg => by subst hg; exact (Val.fieldAddr rfl fl117_1 sz113 rfl)) ?_
  refine TA.gtk 9 991 rfl rfl rfl rfl rfl (fun hg => by subst hg; exact (Val.load 2 rfl ag113 rfl rfl)) ?_
  refine TA.gtk 10 2015 rfl rfl rfl rfl rfl (fun hg => by subst hg; exact (Val.fieldAddr rfl fl61_1 sz3 rfl)) ?_
  refine TA.gtk 11 4063 rfl rfl rfl rfl rfl (fun hg => by subst hg; exact (Val.load 1 rfl ag3 rfl rfl)) ?_
  cases g3 with
  | false =>
    refine TA.tkP 5 4095 rfl rfl rfl rfl rfl rfl ?_
    refine TA.tkP 12 8191 rfl rfl rfl rfl rfl rfl ?_
    refine TA.tkP 13 16383 rfl rfl rfl rfl rfl rfl ?_
    refine TA.tk 14 32767 rfl rfl rfl (Val.pick rfl rfl rfl) ?_
    refine TA.done (by kernel_rfl) ?_
    refine AtX.then ?_
    refine TC.env (E' := [(0, _), (2, _), (4, _), (6, _), (7, _), (22, _)]) (Sub.cons rfl (Sub.cons rfl (Sub.cons rfl (Sub.cons rfl (Sub.cons rfl (Sub.cons rfl (Sub.nil _))))))) ?_
    first | refine TC.condP rfl (fun c1 => ?_) (fun c1 => ?_) | refine TC.condN rfl (fun c1 => ?_) (fun c1 => ?_) | refine TC.condB rfl (fun c1 => ?_) (fun c1 => ?_) | refine TC.cond rfl (fun c1 => ?_) (fun c1 => ?_)
    · skip
      (exfalso; unfold sgen at *; grind)
    · skip
      refine TC.env (E' := [(0, _), (2, _), (4, _), (6, _), (7, _)]) (Sub.cons rfl (Sub.cons rfl (Sub.cons rfl (Sub.cons rfl (Sub.cons rfl (Sub.nil _)))))) ?_
      refine TC.skip ?_
      refine AtX.then ?_
      refine TC.env (E' := [(0, _), (2, _), (4, _), (6, _), (7, _)]) (Sub.cons rfl (Sub.cons rfl (Sub.cons rfl (Sub.cons rfl (Sub.cons rfl (Sub.nil _)))))) ?_
      refine TC.seq ?_
      refine TC.drawL [(b1, .cells #[.int .i64 kind, .int .i64 ((k : Nat) : Int), .int .i64 gen, .int .i64 sq, .int .i64 ep, .int .i64 va, .int .i64 me] 61 (0, 0)), gateO gb c rb (some ⟨nb, 0, none⟩) N cn (some ⟨ob, 0, none⟩) N co ref] mixed 14 ?_
      refine TA.tk 0 1 rfl rfl rfl (Val.move rfl) ?_ (hro := (by repeat (first | exact Go.X.ro_pre2 | refine Go.X.ro_tail ?_ | refine Go.X.ro_app ?_)))
      refine TA.tk 1 3 rfl rfl rfl (Val.nilCheck rfl) ?_ (hro := (by repeat (first | exact Go.X.ro_pre2 | refine Go.X.ro_tail ?_ | refine Go.X.ro_app ?_)))
      refine TA.tk 2 7 rfl rfl rfl (Val.fieldAddr rfl fl117_1 sz113 rfl) ?_ (hro := (by repeat (first | exact Go.X.ro_pre2 | refine Go.X.ro_tail ?_ | refine Go.X.ro_app ?_)))
      refine TA.tk 3 15 rfl rfl rfl (Val.load 1 rfl ag113 rfl rfl) ?_ (hro := (by repeat (first | exact Go.X.ro_pre2 | refine Go.X.ro_tail ?_ | refine Go.X.ro_app ?_)))
      refine TA.tk 4 31 rfl rfl rfl (Val.fieldAddr rfl fl61_1 sz3 rfl) ?_ (hro := (by repeat (first | exact Go.X.ro_pre2 | refine Go.X.ro_tail ?_ | refine Go.X.ro_app ?_)))
      refine TA.tk 5 63 rfl rfl rfl (Val.load 0 rfl ag3 rfl rfl) ?_ (hro := (by repeat (first | exact Go.X.ro_pre2 | refine Go.X.ro_tail ?_ | refine Go.X.ro_app ?_)))
      refine TA.tk 6 127 rfl rfl rfl (Val.loadAgg 0 rfl ag61 sz61 rfl rfl rfl) ?_ (hro := (by repeat (first | exact Go.X.ro_pre2 | refine Go.X.ro_tail ?_ | refine Go.X.ro_app ?_)))
      refine TA.tk 8 383 rfl rfl rfl (Val.move rfl) ?_ (hro := (by repeat (first | exact Go.X.ro_pre2 | refine Go.X.ro_tail ?_ | refine Go.X.ro_app ?_)))
      refine TA.one 7 (by kernel_rfl) ?_
      refine TO.dz 511 (some 31) rfl rfl rfl rfl (Does.callF go96 rfl (sealed_k k kind gen sq ep va me _ hgen)) ?_
      rintro _ _ ⟨rfl, rfl⟩
      refine ⟨(by repeat (first | exact Go.X.ro_pre2 | refine Go.X.ro_tail ?_ | refine Go.X.ro_app ?_)), ?_⟩
      refine TA.one 9 (by kernel_rfl) ?_
      refine TO.dz 1023 (some 33) rfl rfl rfl rfl (Does.callF go97 rfl (Key_fn rb lb 3 c.seed N c.grace asked _ rfl ones (.some (rd_rowA (i := 4) rfl)) h1.symm k x hx (sgen kind gen) now ⟨by omega, by omega⟩ hxs ⟨by omega, by omega⟩ ⟨by omega, by omega⟩ ⟨4, by decide, rfl⟩)) ?_
      rintro _ _ ⟨rfl, rfl⟩
      refine ⟨(by repeat (first | exact Go.X.ro_pre2 | refine Go.X.ro_tail ?_ | refine Go.X.ro_app ?_)), ?_⟩
      refine TA.tk 10 2047 rfl rfl rfl (Val.extract rfl rfl) ?_ (hro := (by repeat (first | exact Go.X.ro_pre2 | refine Go.X.ro_tail ?_ | refine Go.X.ro_app ?_)))
      refine TA.tk 11 4095 rfl rfl rfl (Val.extract rfl rfl) ?_ (hro := (by repeat (first | exact Go.X.ro_pre2 | refine Go.X.ro_tail ?_ | refine Go.X.ro_app ?_)))
      refine TA.one 12 (by kernel_rfl) ?_
      refine TO.dz 8191 none rfl rfl rfl rfl (Does.store (i := 0) rfl rfl rfl sz69 rfl rfl (by first | exact Nat.le_of_ble_eq_true rfl | decide | omega) rfl rfl) ?_
      rintro _ _ ⟨rfl, rfl⟩
      refine ⟨(by repeat (first | exact Go.X.ro_pre2 | refine Go.X.ro_tail ?_ | refine Go.X.ro_app ?_)), ?_⟩
      refine TA.tk 13 16383 rfl rfl rfl (Val.assign rfl) ?_ (hro := (by repeat (first | exact Go.X.ro_pre2 | refine Go.X.ro_tail ?_ | refine Go.X.ro_app ?_)))
      refine TA.done (by kernel_rfl) ?_
      refine AtX.then ?_
      refine TC.env (E' := [(6, _), (7, _)]) (Sub.cons rfl (Sub.cons rfl (Sub.nil _))) ?_
      refine TC.ret2 (fn := Try.f64) (fun _ _ h => h) rfl (RV.agg (i := 0) rfl ag69 sz69 rfl rfl rfl) (RV.tmp rfl) (M' := (gateO gb c rb (some ⟨nb, 0, none⟩) N cn (some ⟨ob, 0, none⟩) N co ref :: ringO rb c.seed lb N c.grace (asked + 1) :: (lb, row 161 (ones.flatMap On.cs)) :: (nb, row 118 (nws.map pp ++ sn)) :: (ob, row 118 (ols.map pp ++ so)) :: T)) (fun w h => h.drop.drop) ?_
      exact ⟨rfl, rfl⟩
  | true =>
    refine TA.one 5 (by kernel_rfl) ?_
    refine TO.dzY 4095 (some 13) rfl rfl rfl rfl rfl rfl (Does.callF go96 rfl (sealed_k k kind gen sq ep va me _ hgen)) ?_
    rintro _ _ ⟨rfl, rfl⟩
    refine roK ?_
    refine TA.one 12 (by kernel_rfl) ?_
    refine TO.dzY 8191 (some 20) rfl rfl rfl rfl rfl rfl (Does.callF go71 rfl (rGen_fn rb lb 3 c.seed N c.grace asked _ rfl ones (.some (rd_rowA (i := 4) rfl)) h1.symm k x hx)) ?_
    rintro _ _ ⟨rfl, rfl⟩
    refine roK ?_
    refine TA.tkY 13 16383 rfl rfl rfl rfl rfl (Val.neqI rfl rfl) ?_
    refine TA.tk 14 32767 rfl rfl rfl (Val.pickAnd rfl rfl rfl) ?_
    refine TA.done (by kernel_rfl) ?_
    refine AtX.then ?_
    refine TC.env (E' := [(0, _), (2, _), (4, _), (6, _), (7, _), (22, _)]) (Sub.cons rfl (Sub.cons rfl (Sub.cons rfl (Sub.cons rfl (Sub.cons rfl (Sub.cons rfl (Sub.nil _))))))) ?_
    first | refine TC.condP rfl (fun c2 => ?_) (fun c2 => ?_) | refine TC.condN rfl (fun c2 => ?_) (fun c2 => ?_) | refine TC.condB rfl (fun c2 => ?_) (fun c2 => ?_) | refine TC.cond rfl (fun c2 => ?_) (fun c2 => ?_)
    · skip
      (exfalso; unfold sgen at *; grind)
    · skip
      refine TC.env (E' := [(0, _), (2, _), (4, _), (6, _), (7, _)]) (Sub.cons rfl (Sub.cons rfl (Sub.cons rfl (Sub.cons rfl (Sub.cons rfl (Sub.nil _)))))) ?_
      refine TC.skip ?_
      refine AtX.then ?_
      refine TC.env (E' := [(0, _), (2, _), (4, _), (6, _), (7, _)]) (Sub.cons rfl (Sub.cons rfl (Sub.cons rfl (Sub.cons rfl (Sub.cons rfl (Sub.nil _)))))) ?_
      refine TC.seq ?_
      refine TC.drawL [(b1, .cells #[.int .i64 kind, .int .i64 ((k : Nat) : Int), .int .i64 gen, .int .i64 sq, .int .i64 ep, .int .i64 va, .int .i64 me] 61 (0, 0)), gateO gb c rb (some ⟨nb, 0, none⟩) N cn (some ⟨ob, 0, none⟩) N co ref] mixed 14 ?_
      refine TA.tk 0 1 rfl rfl rfl (Val.move rfl) ?_ (hro := (by repeat (first | exact Go.X.ro_pre2 | refine Go.X.ro_tail ?_ | refine Go.X.ro_app ?_)))
      refine TA.tk 1 3 rfl rfl rfl (Val.nilCheck rfl) ?_ (hro := (by repeat (first | exact Go.X.ro_pre2 | refine Go.X.ro_tail ?_ | refine Go.X.ro_app ?_)))
      refine TA.tk 2 7 rfl rfl rfl (Val.fieldAddr rfl fl117_1 sz113 rfl) ?_ (hro := (by repeat (first | exact Go.X.ro_pre2 | refine Go.X.ro_tail ?_ | refine Go.X.ro_app ?_)))
      refine TA.tk 3 15 rfl rfl rfl (Val.load 1 rfl ag113 rfl rfl) ?_ (hro := (by repeat (first | exact Go.X.ro_pre2 | refine Go.X.ro_tail ?_ | refine Go.X.ro_app ?_)))
      refine TA.tk 4 31 rfl rfl rfl (Val.fieldAddr rfl fl61_1 sz3 rfl) ?_ (hro := (by repeat (first | exact Go.X.ro_pre2 | refine Go.X.ro_tail ?_ | refine Go.X.ro_app ?_)))
      refine TA.tk 5 63 rfl rfl rfl (Val.load 0 rfl ag3 rfl rfl) ?_ (hro := (by repeat (first | exact Go.X.ro_pre2 | refine Go.X.ro_tail ?_ | refine Go.X.ro_app ?_)))
      refine TA.tk 6 127 rfl rfl rfl (Val.loadAgg 0 rfl ag61 sz61 rfl rfl rfl) ?_ (hro := (by repeat (first | exact Go.X.ro_pre2 | refine Go.X.ro_tail ?_ | refine Go.X.ro_app ?_)))
      refine TA.tk 8 383 rfl rfl rfl (Val.move rfl) ?_ (hro := (by repeat (first | exact Go.X.ro_pre2 | refine Go.X.ro_tail ?_ | refine Go.X.ro_app ?_)))
      refine TA.one 7 (by kernel_rfl) ?_
      refine TO.dz 511 (some 31) rfl rfl rfl rfl (Does.callF go96 rfl (sealed_k k kind gen sq ep va me _ hgen)) ?_
      rintro _ _ ⟨rfl, rfl⟩
      refine ⟨(by repeat (first | exact Go.X.ro_pre2 | refine Go.X.ro_tail ?_ | refine Go.X.ro_app ?_)), ?_⟩
      refine TA.one 9 (by kernel_rfl) ?_
      refine TO.dz 1023 (some 33) rfl rfl rfl rfl (Does.callF go97 rfl (Key_fn rb lb 3 c.seed N c.grace asked _ rfl ones (.some (rd_rowA (i := 4) rfl)) h1.symm k x hx (sgen kind gen) now ⟨by omega, by omega⟩ hxs ⟨by omega, by omega⟩ ⟨by omega, by omega⟩ ⟨4, by decide, rfl⟩)) ?_
      rintro _ _ ⟨rfl, rfl⟩
      refine ⟨(by repeat (first | exact Go.X.ro_pre2 | refine Go.X.ro_tail ?_ | refine Go.X.ro_app ?_)), ?_⟩
      refine TA.tk 10 2047 rfl rfl rfl (Val.extract rfl rfl) ?_ (hro := (by repeat (first | exact Go.X.ro_pre2 | refine Go.X.ro_tail ?_ | refine Go.X.ro_app ?_)))
      refine TA.tk 11 4095 rfl rfl rfl (Val.extract rfl rfl) ?_ (hro := (by repeat (first | exact Go.X.ro_pre2 | refine Go.X.ro_tail ?_ | refine Go.X.ro_app ?_)))
      refine TA.one 12 (by kernel_rfl) ?_
      refine TO.dz 8191 none rfl rfl rfl rfl (Does.store (i := 0) rfl rfl rfl sz69 rfl rfl (by first | exact Nat.le_of_ble_eq_true rfl | decide | omega) rfl rfl) ?_
      rintro _ _ ⟨rfl, rfl⟩
      refine ⟨(by repeat (first | exact Go.X.ro_pre2 | refine Go.X.ro_tail ?_ | refine Go.X.ro_app ?_)), ?_⟩
      refine TA.tk 13 16383 rfl rfl rfl (Val.assign rfl) ?_ (hro := (by repeat (first | exact Go.X.ro_pre2 | refine Go.X.ro_tail ?_ | refine Go.X.ro_app ?_)))
      refine TA.done (by kernel_rfl) ?_
      refine AtX.then ?_
      refine TC.env (E' := [(6, _), (7, _)]) (Sub.cons rfl (Sub.cons rfl (Sub.nil _))) ?_
      refine TC.ret2 (fn := Try.f64) (fun _ _ h => h) rfl (RV.agg (i := 0) rfl ag69 sz69 rfl rfl rfl) (RV.tmp rfl) (M' := (gateO gb c rb (some ⟨nb, 0, none⟩) N cn (some ⟨ob, 0, none⟩) N co ref :: ringO rb c.seed lb N c.grace (asked + 1) :: (lb, row 161 (ones.flatMap On.cs)) :: (nb, row 118 (nws.map pp ++ sn)) :: (ob, row 118 (ols.map pp ++ so)) :: T)) (fun w h => h.drop.drop) ?_
      exact ⟨rfl, rfl⟩

/-- (*quorumite/verify.Gate).replay -/
theorem gSel_fn (gb rb lb nb cn ob co : Nat) (sn so : List Value) (c : Cf) (N : Nat) (asked ref : Int) (ones : List On) (nws ols : List Nat) (T : Hp) (hN : c.n = N) (h1 : ones.length = N) (h2 : nws.length = N) (h3 : ols.length = N) (hgr : 1 ≤ c.grace ∧ c.grace ≤ 100) (has : 0 ≤ asked ∧ asked ≤ 100000) (k : Nat) (x : On) (hx : ones[k]? = some x) (hxb : 0 ≤ x.gen ∧ x.gen ≤ 60000) (hxs : 0 ≤ x.since ∧ x.since ≤ 1099511627776) (kind gen sq ep va me : Int) (hgen : -1000000 ≤ gen ∧ gen ≤ 1000000) (hk2 : kind = 2 → gen - 1 = x.gen) (p p2 : Nat) (hp : nws[k]? = some p) (hp2 : ols[k]? = some p2) : FnC Try.prog 65 #[.pointer (some ⟨gb, 0, none⟩), .agg #[.int .i64 kind, .int .i64 ((k : Nat) : Int), .int .i64 gen, .int .i64 sq, .int .i64 ep, .int .i64 va, .int .i64 me]] (gateO gb c rb (some ⟨nb, 0, none⟩) N cn (some ⟨ob, 0, none⟩) N co ref :: ringO rb c.seed lb N c.grace asked :: (lb, row 161 (ones.flatMap On.cs)) :: (nb, row 118 (nws.map pp ++ sn)) :: (ob, row 118 (ols.map pp ++ so)) :: T) (fun v M' => v = .pointer (some ⟨if sgen kind gen = x.gen then p else p2, 0, none⟩) ∧ (gateO gb c rb (some ⟨nb, 0, none⟩) N cn (some ⟨ob, 0, none⟩) N co ref :: ringO rb c.seed lb N c.grace asked :: (lb, row 161 (ones.flatMap On.cs)) :: (nb, row 118 (nws.map pp ++ sn)) :: (ob, row 118 (ols.map pp ++ so)) :: T) = M') := by
  have hkN : k < N := by rw [← h1]; exact (List.getElem?_eq_some_iff.1 hx).1
  refine FnC.intro Try.func65 rfl 31 rfl (by simp) (fun z => ?_)
  refine TC.env (E' := [(0, _), (1, _)]) (Sub.cons rfl (Sub.cons rfl (Sub.nil _))) ?_
  refine TC.seq ?_
  refine TC.region ?_
  refine TL.does (some 3) rfl rfl rfl (Does.box rfl rfl) ?_
  rintro _ _ ⟨b1, rfl, rfl⟩
  refine TL.val rfl rfl (Nat.le_of_ble_eq_true rfl) (Val.assign rfl) ?_
  refine TL.nil ?_
  refine AtX.then ?_
  refine TC.env (E' := [(0, _), (3, _), (4, _)]) (Sub.cons rfl (Sub.cons rfl (Sub.cons rfl (Sub.nil _)))) ?_
  refine TC.seq ?_
  refine TC.seq ?_
  refine TC.drawLM mixed 10 ?_
  refine TA.tk 0 1 rfl rfl rfl (Val.loadAgg 0 rfl ag61 sz61 rfl rfl rfl) ?_
  refine TA.tk 2 5 rfl rfl rfl (Val.move rfl) ?_
  refine TA.tk 3 13 rfl rfl rfl (Val.nilCheck rfl) ?_
  refine TA.tk 4 29 rfl rfl rfl (Val.fieldAddr rfl fl117_1 sz113 rfl) ?_
  refine TA.tk 5 61 rfl rfl rfl (Val.load 1 rfl ag113 rfl rfl) ?_
  refine TA.tk 6 125 rfl rfl rfl (Val.fieldAddr rfl fl61_1 sz3 rfl) ?_
  refine TA.tk 7 253 rfl rfl rfl (Val.load 0 rfl ag3 rfl rfl) ?_
  refine TA.one 1 (by kernel_rfl) ?_
  refine TO.dz 255 (some 6) rfl rfl rfl rfl (Does.callF go96 rfl (sealed_k k kind gen sq ep va me _ hgen)) ?_
  rintro _ _ ⟨rfl, rfl⟩
  refine roK ?_
  refine TA.one 8 (by kernel_rfl) ?_
  refine TO.dz 511 (some 13) rfl rfl rfl rfl (Does.callF go71 rfl (rGen_fn rb lb 2 c.seed N c.grace asked _ rfl ones (.some (rd_rowA (i := 3) rfl)) h1.symm k x hx)) ?_
  rintro _ _ ⟨rfl, rfl⟩
  refine roK ?_
  refine TA.tk 9 1023 rfl rfl rfl (Val.eqlI rfl rfl) ?_
  refine TA.done (by kernel_rfl) ?_
  refine AtX.then ?_
  refine TC.env (E' := [(0, _), (3, _), (4, _), (14, _)]) (Sub.cons rfl (Sub.cons rfl (Sub.cons rfl (Sub.cons rfl (Sub.nil _))))) ?_
  first | refine TC.condP rfl (fun c1 => ?_) (fun c1 => ?_) | refine TC.condN rfl (fun c1 => ?_) (fun c1 => ?_) | refine TC.condB rfl (fun c1 => ?_) (fun c1 => ?_) | refine TC.cond rfl (fun c1 => ?_) (fun c1 => ?_)
  · skip
    refine TC.env (E' := [(0, _), (3, _), (4, _)]) (Sub.cons rfl (Sub.cons rfl (Sub.cons rfl (Sub.nil _)))) ?_
    refine TC.seq ?_
    refine TC.drawLM mixed 9 ?_
    refine TA.tk 0 1 rfl rfl rfl (Val.move rfl) ?_
    refine TA.tk 1 3 rfl rfl rfl (Val.nilCheck rfl) ?_
    refine TA.tk 2 7 rfl rfl rfl (Val.fieldAddr rfl fl117_2 sz115 rfl) ?_
    refine TA.tk 3 15 rfl rfl rfl (Val.load 1 rfl ag115 rfl rfl) ?_
    refine TA.tk 4 31 rfl rfl rfl (Val.fieldAddr rfl fl61_1 sz3 rfl) ?_
    refine TA.tk 5 63 rfl rfl rfl (Val.load 0 rfl ag3 rfl rfl) ?_
    refine TA.tk 6 127 rfl rfl rfl (Val.indexAddr (i := k) (r := k) rfl rfl sl115 sz118 rfl hkN (by omega)) ?_
    refine TA.tk 7 255 rfl rfl rfl (Val.loadRd (o := 0) (j := k) rfl ag118 (rd_row0 (i := 4) (l := nws.map pp) rfl) (by omega) (map_get hp)) ?_
    refine TA.tk 8 511 rfl rfl rfl (Val.assign rfl) ?_
    refine TA.done (by kernel_rfl) ?_
    refine AtX.then ?_
    refine TC.env (E' := [(0, _), (3, _), (4, _)]) (Sub.cons rfl (Sub.cons rfl (Sub.cons rfl (Sub.nil _)))) ?_
    refine TC.ret1 (fn := Try.f65) (fun _ _ h => h) rfl (RV.tmp rfl) (M' := (gateO gb c rb (some ⟨nb, 0, none⟩) N cn (some ⟨ob, 0, none⟩) N co ref :: ringO rb c.seed lb N c.grace asked :: (lb, row 161 (ones.flatMap On.cs)) :: (nb, row 118 (nws.map pp ++ sn)) :: (ob, row 118 (ols.map pp ++ so)) :: T)) (fun w h => h.drop) ?_
    refine ⟨?_, rfl⟩
    first | rw [if_pos (by assumption)] | rw [if_neg (by assumption)]
  · skip
    refine TC.env (E' := [(0, _), (3, _), (4, _)]) (Sub.cons rfl (Sub.cons rfl (Sub.cons rfl (Sub.nil _)))) ?_
    refine TC.skip ?_
    refine AtX.then ?_
    refine TC.env (E' := [(0, _), (3, _), (4, _)]) (Sub.cons rfl (Sub.cons rfl (Sub.cons rfl (Sub.nil _)))) ?_
    refine TC.seq ?_
    refine TC.drawLM mixed 9 ?_
    refine TA.tk 0 1 rfl rfl rfl (Val.move rfl) ?_
    refine TA.tk 1 3 rfl rfl rfl (Val.nilCheck rfl) ?_
    refine TA.tk 2 7 rfl rfl rfl (Val.fieldAddr rfl fl117_3 sz115 rfl) ?_
    refine TA.tk 3 15 rfl rfl rfl (Val.load 1 rfl ag115 rfl rfl) ?_
    refine TA.tk 4 31 rfl rfl rfl (Val.fieldAddr rfl fl61_1 sz3 rfl) ?_
    refine TA.tk 5 63 rfl rfl rfl (Val.load 0 rfl ag3 rfl rfl) ?_
    refine TA.tk 6 127 rfl rfl rfl (Val.indexAddr (i := k) (r := k) rfl rfl sl115 sz118 rfl hkN (by omega)) ?_
    refine TA.tk 7 255 rfl rfl rfl (Val.loadRd (o := 0) (j := k) rfl ag118 (rd_row0 (i := 5) (l := ols.map pp) rfl) (by omega) (map_get hp2)) ?_
    refine TA.tk 8 511 rfl rfl rfl (Val.assign rfl) ?_
    refine TA.done (by kernel_rfl) ?_
    refine AtX.then ?_
    refine TC.env (E' := [(4, _)]) (Sub.cons rfl (Sub.nil _)) ?_
    refine TC.ret1 (fn := Try.f65) (fun _ _ h => h) rfl (RV.tmp rfl) (M' := (gateO gb c rb (some ⟨nb, 0, none⟩) N cn (some ⟨ob, 0, none⟩) N co ref :: ringO rb c.seed lb N c.grace asked :: (lb, row 161 (ones.flatMap On.cs)) :: (nb, row 118 (nws.map pp ++ sn)) :: (ob, row 118 (ols.map pp ++ so)) :: T)) (fun w h => h.drop) ?_
    refine ⟨?_, rfl⟩
    first | rw [if_pos (by assumption)] | rw [if_neg (by assumption)]

end Go.Proofs.Ytphoapajlcaoeaa
/- walks -/
set_option linter.unusedVariables false
set_option linter.unusedSimpArgs false
set_option maxRecDepth 100000
set_option maxHeartbeats 4000000
namespace Go.Proofs.Ytphoapajlcaoeaa
open Go Go.X
def chkC (ok same may stale mok : Bool) : Int := if ok = false then 4 else if same = false then 5 else if may = false then 6 else if stale = true then 7 else if mok = true then 0 else 1
/-- (*quorumite/verify.Gate).check -/
theorem check_nil (gb rb lb nb cn ob co : Nat) (sn so : List Value) (c : Cf) (N : Nat) (asked ref : Int) (ones : List On) (nws ols : List Nat) (T : Hp) (hN : c.n = N) (h1 : ones.length = N) (h2 : nws.length = N) (h3 : ols.length = N) (hgr : 1 ≤ c.grace ∧ c.grace ≤ 100) (has : 0 ≤ asked ∧ asked ≤ 90000) (k : Nat) (x : On) (hx : ones[k]? = some x) (hxb : 0 ≤ x.gen ∧ x.gen ≤ 60000) (hxs : 0 ≤ x.since ∧ x.since ≤ 1099511627776) (kind gen sq ep va me : Int) (hgen : -1000000 ≤ gen ∧ gen ≤ 1000000) (hk2 : kind = 2 → gen - 1 = x.gen) (now : Int) (hc : OkC c) (p p2 : Nat) (hp : nws[k]? = some p) (hp2 : ols[k]? = some p2) (ip : Nat) (top bits rr : Int) (htop : 0 ≤ top ∧ top ≤ 1000000) (hrep : T[ip]? = some (repO (if sgen kind gen = x.gen then p else p2) c.window top bits rr)) (hsq : 1 ≤ sq ∧ sq ≤ 1099511627776) (hep : 0 ≤ ep ∧ ep ≤ 1099511627776) (hnow : 0 ≤ now ∧ now ≤ 1099511627776) (tx : List UInt8) (A : Option Addr) (nn cc : Nat) (hA : RdS T A (bv tx)) (hnn : nn = tx.length) (htx : tx.length ≤ 1000) (tg : K2)  : FnC Try.prog 63 #[.pointer (some ⟨gb, 0, none⟩), .agg #[.int .i64 kind, .int .i64 ((k : Nat) : Int), .int .i64 gen, .int .i64 sq, .int .i64 ep, .int .i64 va, .int .i64 me], .slice A nn cc, .agg #[.int .u64 tg.a, .int .u64 tg.b], .int .i64 now, .nilFunc] (gateO gb c rb (some ⟨nb, 0, none⟩) N cn (some ⟨ob, 0, none⟩) N co ref :: ringO rb c.seed lb N c.grace asked :: (lb, row 161 (ones.flatMap On.cs)) :: (nb, row 118 (nws.map pp ++ sn)) :: (ob, row 118 (ols.map pp ++ so)) :: T) (fun v M' => v = .int .i64 (chkC (okK x (sgen kind gen) now c.grace) (decide (bitsOf .or .u64 (xor64 (tagOf (if okK x (sgen kind gen) now c.grace = true then (macKey c.seed (k : Nat) (sgen kind gen)) else ⟨0, 0⟩) tx).a tg.a) (xor64 (tagOf (if okK x (sgen kind gen) now c.grace = true then (macKey c.seed (k : Nat) (sgen kind gen)) else ⟨0, 0⟩) tx).b tg.b) = 0)) (mayP c.window top bits sq) (decide (ep < now) || decide (c.fresh ≤ IntKind.u64.wrap (ep - now))) (decide (me < c.m))) ∧ M' = (gateO gb c rb (some ⟨nb, 0, none⟩) N cn (some ⟨ob, 0, none⟩) N co ref :: ringO rb c.seed lb N c.grace (asked + 1) :: (lb, row 161 (ones.flatMap On.cs)) :: (nb, row 118 (nws.map pp ++ sn)) :: (ob, row 118 (ols.map pp ++ so)) :: T)) := by
  have hkN : k < N := by rw [← h1]; exact (List.getElem?_eq_some_iff.1 hx).1
  have hfr := hc.fresh
  have hwin := hc.window
  refine FnC.intro Try.func63 rfl 88 rfl (by simp) (fun z => ?_)
  refine TC.env (E' := [(0, _), (1, _), (2, _), (3, _), (4, _), (5, _)]) (Sub.cons rfl (Sub.cons rfl (Sub.cons rfl (Sub.cons rfl (Sub.cons rfl (Sub.cons rfl (Sub.nil _))))))) ?_
  refine TC.seq ?_
  refine TC.region ?_
  refine TL.does (some 7) rfl rfl rfl (Does.box rfl rfl) ?_
  rintro _ _ ⟨b1, rfl, rfl⟩
  refine TL.does (some 9) rfl rfl rfl (Does.box rfl rfl) ?_
  rintro _ _ ⟨b2, rfl, rfl⟩
  refine TL.val rfl rfl (Nat.le_of_ble_eq_true rfl) (Val.assign rfl) ?_
  refine TL.nil ?_
  refine AtX.then ?_
  refine TC.env (E' := [(0, _), (2, _), (4, _), (5, _), (7, _), (9, _), (12, _)]) (Sub.cons rfl (Sub.cons rfl (Sub.cons rfl (Sub.cons rfl (Sub.cons rfl (Sub.cons rfl (Sub.cons rfl (Sub.nil _)))))))) ?_
  refine TC.seq ?_
  refine TC.seq ?_
  refine TC.heap (M' := (gateO gb c rb (some ⟨nb, 0, none⟩) N cn (some ⟨ob, 0, none⟩) N co ref :: ringO rb c.seed lb N c.grace asked :: (lb, row 161 (ones.flatMap On.cs)) :: (nb, row 118 (nws.map pp ++ sn)) :: (ob, row 118 (ols.map pp ++ so)) :: ((b2, .cells #[.int .u64 tg.a, .int .u64 tg.b] 73 (0, 0)) :: (b1, .cells #[.int .i64 kind, .int .i64 ((k : Nat) : Int), .int .i64 gen, .int .i64 sq, .int .i64 ep, .int .i64 va, .int .i64 me] 61 (0, 0)) :: T))) (fun w h => ro_mv (A := [_, _]) (L := [_, _, _, _, _]) w h) ?_
  refine TC.drawLM mixed 18 ?_
  refine TA.tk 0 1 rfl rfl rfl (Val.fieldAddr rfl fl61_1 sz3 rfl) ?_
  refine TA.tk 1 3 rfl rfl rfl (Val.load 6 rfl ag3 rfl rfl) ?_
  refine TA.tk 2 7 rfl rfl rfl (Val.move rfl) ?_
  refine TA.tk 3 15 rfl rfl rfl (Val.nilCheck rfl) ?_
  refine TA.tk 4 31 rfl rfl rfl (Val.fieldAddr rfl fl117_0 sz26 rfl) ?_
  refine TA.tk 5 63 rfl rfl rfl (Val.fieldAddr rfl fl26_0 sz3 rfl) ?_
  refine TA.tk 6 127 rfl rfl rfl (Val.load 0 rfl ag3 rfl rfl) ?_
  refine TA.tk 7 255 rfl rfl rfl (Val.geq rfl rfl) ?_
  refine TA.tk 8 511 rfl rfl rfl (Val.move rfl) ?_
  refine TA.gen (fun g3 hg3 => ?_)
  cases g3 with
  | false =>
    refine TA.tkY 9 1023 rfl rfl rfl rfl rfl (Val.move rfl) ?_
    refine TA.tkY 10 2047 rfl rfl rfl rfl rfl (Val.neqNilF rfl rfl (by kernel_rfl)) ?_
    refine TA.tkY 11 4095 rfl rfl rfl rfl rfl (Val.move rfl) ?_
    refine TA.gen (fun g4 hg4 => ?_)
    refine TA.gtk 12 8191 rfl rfl rfl rfl rfl (fun hg => by subst hg; exact (Val.move rfl)) ?_
    refine TA.gtk 13 16383 rfl rfl rfl rfl rfl (fun hg => by subst hg; exact (Val.fieldAddr rfl fl61_1 sz3 rfl)) ?_
    refine TA.gtk 14 32767 rfl rfl rfl rfl rfl (fun hg => by subst hg; exact (Val.load 6 rfl ag3 rfl rfl)) ?_
    cases g4 with
    | false =>
      refine TA.tkP 15 65535 rfl rfl rfl rfl rfl rfl ?_
      refine TA.tkY 16 131071 rfl rfl rfl rfl rfl (Val.pick rfl rfl rfl) ?_
      refine TA.tk 17 262143 rfl rfl rfl (Val.pickOr rfl rfl rfl) ?_
      refine TA.done (by kernel_rfl) ?_
      refine AtX.then ?_
      refine TC.env (E' := [(0, _), (2, _), (4, _), (7, _), (9, _), (12, _), (32, _)]) (Sub.cons rfl (Sub.cons rfl (Sub.cons rfl (Sub.cons rfl (Sub.cons rfl (Sub.cons rfl (Sub.cons rfl (Sub.nil _)))))))) ?_
      first | refine TC.condP rfl (fun c1 => ?_) (fun c1 => ?_) | refine TC.condN rfl (fun c1 => ?_) (fun c1 => ?_) | refine TC.condB rfl (fun c1 => ?_) (fun c1 => ?_) | refine TC.cond rfl (fun c1 => ?_) (fun c1 => ?_)
      · skip
        (exfalso; grind)
      · skip
        refine TC.env (E' := [(0, _), (2, _), (4, _), (7, _), (9, _), (12, _)]) (Sub.cons rfl (Sub.cons rfl (Sub.cons rfl (Sub.cons rfl (Sub.cons rfl (Sub.cons rfl (Sub.nil _))))))) ?_
        refine TC.skip ?_
        refine AtX.then ?_
        refine TC.env (E' := [(0, _), (2, _), (4, _), (7, _), (9, _), (12, _)]) (Sub.cons rfl (Sub.cons rfl (Sub.cons rfl (Sub.cons rfl (Sub.cons rfl (Sub.cons rfl (Sub.nil _))))))) ?_
        refine TC.seq ?_
        refine TC.region ?_
        refine TL.val rfl rfl (Nat.le_of_ble_eq_true rfl) (Val.move rfl) ?_
        refine TL.val rfl rfl (Nat.le_of_ble_eq_true rfl) (Val.loadAgg 6 rfl ag61 sz61 rfl rfl rfl) ?_
        refine TL.val rfl rfl (Nat.le_of_ble_eq_true rfl) (Val.move rfl) ?_
        refine TL.does (some 37) rfl rfl rfl (Does.callF go64 rfl (gKey_fn gb rb lb nb cn ob co sn so c N asked ref ones nws ols _ hN h1 h2 h3 hgr ⟨has.1, by omega⟩ k x hx hxb hxs kind gen sq ep va me hgen hk2 now)) ?_
        rintro _ _ ⟨rfl, rfl⟩
        refine TL.val rfl rfl (Nat.le_of_ble_eq_true rfl) (Val.move rfl) ?_
        refine TL.val rfl rfl (Nat.le_of_ble_eq_true rfl) (Val.extract rfl rfl) ?_
        refine TL.val rfl rfl (Nat.le_of_ble_eq_true rfl) (Val.extract rfl rfl) ?_
        refine TL.does (some 13) rfl rfl rfl (Does.alloc ze69 rfl) ?_
        rintro _ _ ⟨b3_, rfl, rfl⟩
        refine TL.heap (M' := (gateO gb c rb (some ⟨nb, 0, none⟩) N cn (some ⟨ob, 0, none⟩) N co ref :: ringO rb c.seed lb N c.grace (asked + 1) :: (lb, row 161 (ones.flatMap On.cs)) :: (nb, row 118 (nws.map pp ++ sn)) :: (ob, row 118 (ols.map pp ++ so)) :: ((b3_, .cells #[.int .u64 0, .int .u64 0] 69 (0, 0)) :: ((b2, .cells #[.int .u64 tg.a, .int .u64 tg.b] 73 (0, 0)) :: (b1, .cells #[.int .i64 kind, .int .i64 ((k : Nat) : Int), .int .i64 gen, .int .i64 sq, .int .i64 ep, .int .i64 va, .int .i64 me] 61 (0, 0)) :: T)))) (fun w h => ro_mv (A := [_]) (L := [_, _, _, _, _]) w h) ?_
        refine TL.does none rfl rfl rfl (Does.store (i := 5) rfl rfl rfl sz69 rfl rfl (by first | exact Nat.le_of_ble_eq_true rfl | decide | omega) rfl rfl) ?_
        rintro _ _ ⟨rfl, rfl⟩
        refine TL.val rfl rfl (Nat.le_of_ble_eq_true rfl) (Val.assign rfl) ?_
        refine TL.nil ?_
        refine AtX.then ?_
        refine TC.env (E' := [(0, _), (2, _), (4, _), (7, _), (9, _), (12, _), (13, _), (14, _)]) (Sub.cons rfl (Sub.cons rfl (Sub.cons rfl (Sub.cons rfl (Sub.cons rfl (Sub.cons rfl (Sub.cons rfl (Sub.cons rfl (Sub.nil _))))))))) ?_
        refine TC.seq ?_
        refine TC.block ?_
        refine TC.seq ?_
        refine TC.region ?_
        refine TL.val rfl rfl (Nat.le_of_ble_eq_true rfl) (Val.move rfl) ?_
        refine TL.val rfl rfl (Nat.le_of_ble_eq_true rfl) (Val.neqI rfl rfl) ?_
        refine TL.val rfl rfl (Nat.le_of_ble_eq_true rfl) (Val.assign rfl) ?_
        refine TL.nil ?_
        refine AtX.then ?_
        refine TC.env (E' := [(0, _), (2, _), (4, _), (7, _), (9, _), (12, _), (13, _), (14, _), (40, _)]) (Sub.cons rfl (Sub.cons rfl (Sub.cons rfl (Sub.cons rfl (Sub.cons rfl (Sub.cons rfl (Sub.cons rfl (Sub.cons rfl (Sub.cons rfl (Sub.nil _)))))))))) ?_
        first | refine TC.condP rfl (fun c2 => ?_) (fun c2 => ?_) | refine TC.condN rfl (fun c2 => ?_) (fun c2 => ?_) | refine TC.condB rfl (fun c2 => ?_) (fun c2 => ?_) | refine TC.cond rfl (fun c2 => ?_) (fun c2 => ?_)
        · skip
          refine TC.env (E' := [(12, _), (14, _)]) (Sub.cons rfl (Sub.cons rfl (Sub.nil _))) ?_
          refine TC.seq ?_
          refine TC.region ?_
          refine TL.val rfl rfl (Nat.le_of_ble_eq_true rfl) (Val.move rfl) ?_
          refine TL.val rfl rfl (Nat.le_of_ble_eq_true rfl) (Val.assign rfl) ?_
          refine TL.nil ?_
          refine AtX.then ?_
          refine TC.env (E' := [(12, _)]) (Sub.cons rfl (Sub.nil _)) ?_
          refine TC.ret1 (fn := Try.f63) (fun _ _ h => h) rfl (RV.tmp rfl) (M' := (gateO gb c rb (some ⟨nb, 0, none⟩) N cn (some ⟨ob, 0, none⟩) N co ref :: ringO rb c.seed lb N c.grace (asked + 1) :: (lb, row 161 (ones.flatMap On.cs)) :: (nb, row 118 (nws.map pp ++ sn)) :: (ob, row 118 (ols.map pp ++ so)) :: T)) (fun w h => (ro_mv (A := [_, _, _, _, _]) (L := [_, _, _]) w h).drop.drop.drop) ?_
          refine ⟨?_, rfl⟩
          refine congrArg (Value.int .i64) ?_
          unfold chkC
          clear hN h1 h2 h3 hgr has hx hxb hxs hgen hk2 hp hp2 htop hrep hsq hep hnow hA hnn htx hkN hfr hwin hc
          generalize bitsOf .or .u64 (xor64 (tagOf (if okK x (sgen kind gen) now c.grace = true then (macKey c.seed (k : Nat) (sgen kind gen)) else ⟨0, 0⟩) tx).a tg.a) (xor64 (tagOf (if okK x (sgen kind gen) now c.grace = true then (macKey c.seed (k : Nat) (sgen kind gen)) else ⟨0, 0⟩) tx).b tg.b) = o2 at *
          generalize okK x (sgen kind gen) now c.grace = o1 at *
          generalize mayP c.window top bits sq = o3 at *
          generalize IntKind.u64.wrap (ep - now) = o4 at *
          try clear hg3 hg4 c1
          cases o1 <;> cases o3 <;> grind
        · skip
          refine TC.env (E' := [(0, _), (2, _), (4, _), (7, _), (9, _), (12, _), (13, _)]) (Sub.cons rfl (Sub.cons rfl (Sub.cons rfl (Sub.cons rfl (Sub.cons rfl (Sub.cons rfl (Sub.cons rfl (Sub.nil _)))))))) ?_
          refine TC.seq ?_
          refine TC.drawLM mixed 7 ?_
          refine TA.tk 0 1 rfl rfl rfl (Val.loadAgg 5 rfl ag69 sz69 rfl rfl rfl) ?_
          refine TA.tk 1 3 rfl rfl rfl (Val.move rfl) ?_
          refine TA.tk 3 11 rfl rfl rfl (Val.loadAgg 6 rfl ag73 sz73 rfl rfl rfl) ?_
          refine TA.one 2 (by kernel_rfl) ?_
          refine TO.dz 15 (some 47) rfl rfl rfl rfl (Does.callF go40 rfl (Tag_fn (if okK x (sgen kind gen) now c.grace = true then (macKey c.seed (k : Nat) (sgen kind gen)) else ⟨0, 0⟩) tx _ _ _ _ (by repeat (first | exact hA | apply RdS.cons)) hnn htx)) ?_
          rintro _ _ ⟨rfl, rfl⟩
          refine roK ?_
          refine TA.one 4 (by kernel_rfl) ?_
          refine TO.dz 31 (some 49) rfl rfl rfl rfl (Does.callF go39 rfl (Same_fn (tagOf (if okK x (sgen kind gen) now c.grace = true then (macKey c.seed (k : Nat) (sgen kind gen)) else ⟨0, 0⟩) tx) tg _)) ?_
          rintro _ _ ⟨rfl, rfl⟩
          refine roK ?_
          refine TA.tk 5 63 rfl rfl rfl (Val.not rfl) ?_
          refine TA.tk 6 127 rfl rfl rfl (Val.assign rfl) ?_
          refine TA.done (by kernel_rfl) ?_
          refine AtX.then ?_
          refine TC.env (E' := [(0, _), (4, _), (7, _), (12, _), (44, _)]) (Sub.cons rfl (Sub.cons rfl (Sub.cons rfl (Sub.cons rfl (Sub.cons rfl (Sub.nil _)))))) ?_
          first | refine TC.condP rfl (fun c3 => ?_) (fun c3 => ?_) | refine TC.condN rfl (fun c3 => ?_) (fun c3 => ?_) | refine TC.condB rfl (fun c3 => ?_) (fun c3 => ?_) | refine TC.cond rfl (fun c3 => ?_) (fun c3 => ?_)
          · skip
            refine TC.env (E' := [(12, _)]) (Sub.cons rfl (Sub.nil _)) ?_
            refine TC.seq ?_
            refine TC.region ?_
            refine TL.val rfl rfl (Nat.le_of_ble_eq_true rfl) (Val.assign rfl) ?_
            refine TL.nil ?_
            refine AtX.then ?_
            refine TC.env (E' := [(12, _)]) (Sub.cons rfl (Sub.nil _)) ?_
            refine TC.ret1 (fn := Try.f63) (fun _ _ h => h) rfl (RV.tmp rfl) (M' := (gateO gb c rb (some ⟨nb, 0, none⟩) N cn (some ⟨ob, 0, none⟩) N co ref :: ringO rb c.seed lb N c.grace (asked + 1) :: (lb, row 161 (ones.flatMap On.cs)) :: (nb, row 118 (nws.map pp ++ sn)) :: (ob, row 118 (ols.map pp ++ so)) :: T)) (fun w h => (ro_mv (A := [_, _, _, _, _]) (L := [_, _, _]) w h).drop.drop.drop) ?_
            refine ⟨?_, rfl⟩
            refine congrArg (Value.int .i64) ?_
            unfold chkC
            clear hN h1 h2 h3 hgr has hx hxb hxs hgen hk2 hp hp2 htop hrep hsq hep hnow hA hnn htx hkN hfr hwin hc
            generalize bitsOf .or .u64 (xor64 (tagOf (if okK x (sgen kind gen) now c.grace = true then (macKey c.seed (k : Nat) (sgen kind gen)) else ⟨0, 0⟩) tx).a tg.a) (xor64 (tagOf (if okK x (sgen kind gen) now c.grace = true then (macKey c.seed (k : Nat) (sgen kind gen)) else ⟨0, 0⟩) tx).b tg.b) = o2 at *
            generalize okK x (sgen kind gen) now c.grace = o1 at *
            generalize mayP c.window top bits sq = o3 at *
            generalize IntKind.u64.wrap (ep - now) = o4 at *
            try clear hg3 hg4 c1
            cases o1 <;> cases o3 <;> grind
          · skip
            refine TC.env (E' := [(0, _), (4, _), (7, _), (12, _)]) (Sub.cons rfl (Sub.cons rfl (Sub.cons rfl (Sub.cons rfl (Sub.nil _))))) ?_
            refine TC.seq ?_
            refine TC.drawLM mixed 8 ?_
            refine TA.tk 0 1 rfl rfl rfl (Val.move rfl) ?_
            refine TA.tk 1 3 rfl rfl rfl (Val.loadAgg 7 rfl ag61 sz61 rfl rfl rfl) ?_
            refine TA.tk 3 11 rfl rfl rfl (Val.fieldAddr rfl fl61_3 sz2 rfl) ?_
            refine TA.tk 4 27 rfl rfl rfl (Val.load 7 rfl ag2 rfl rfl) ?_
            refine TA.one 2 (by kernel_rfl) ?_
            refine TO.dz 31 (some 54) rfl rfl rfl rfl (Does.callF go65 rfl (gSel_fn gb rb lb nb cn ob co sn so c N (asked + 1) ref ones nws ols _ hN h1 h2 h3 hgr ⟨by omega, by omega⟩ k x hx hxb hxs kind gen sq ep va me hgen hk2 p p2 hp hp2)) ?_
            rintro _ _ ⟨rfl, rfl⟩
            refine roK ?_
            refine TA.one 5 (by kernel_rfl) ?_
            refine TO.dz 63 (some 57) rfl rfl rfl rfl (Does.callF go66 rfl (pMay_fn (if sgen kind gen = x.gen then p else p2) (ip + 8) c.window top bits rr _ hrep hwin ⟨by omega, by omega⟩ sq hsq)) ?_
            rintro _ _ ⟨rfl, rfl⟩
            refine roK ?_
            refine TA.tk 6 127 rfl rfl rfl (Val.not rfl) ?_
            refine TA.tk 7 255 rfl rfl rfl (Val.assign rfl) ?_
            refine TA.done (by kernel_rfl) ?_
            refine AtX.then ?_
            refine TC.env (E' := [(0, _), (4, _), (7, _), (12, _), (51, _)]) (Sub.cons rfl (Sub.cons rfl (Sub.cons rfl (Sub.cons rfl (Sub.cons rfl (Sub.nil _)))))) ?_
            first | refine TC.condP rfl (fun c4 => ?_) (fun c4 => ?_) | refine TC.condN rfl (fun c4 => ?_) (fun c4 => ?_) | refine TC.condB rfl (fun c4 => ?_) (fun c4 => ?_) | refine TC.cond rfl (fun c4 => ?_) (fun c4 => ?_)
            · skip
              refine TC.env (E' := [(12, _)]) (Sub.cons rfl (Sub.nil _)) ?_
              refine TC.seq ?_
              refine TC.region ?_
              refine TL.val rfl rfl (Nat.le_of_ble_eq_true rfl) (Val.assign rfl) ?_
              refine TL.nil ?_
              refine AtX.then ?_
              refine TC.env (E' := [(12, _)]) (Sub.cons rfl (Sub.nil _)) ?_
              refine TC.ret1 (fn := Try.f63) (fun _ _ h => h) rfl (RV.tmp rfl) (M' := (gateO gb c rb (some ⟨nb, 0, none⟩) N cn (some ⟨ob, 0, none⟩) N co ref :: ringO rb c.seed lb N c.grace (asked + 1) :: (lb, row 161 (ones.flatMap On.cs)) :: (nb, row 118 (nws.map pp ++ sn)) :: (ob, row 118 (ols.map pp ++ so)) :: T)) (fun w h => (ro_mv (A := [_, _, _, _, _]) (L := [_, _, _]) w h).drop.drop.drop) ?_
              refine ⟨?_, rfl⟩
              refine congrArg (Value.int .i64) ?_
              unfold chkC
              clear hN h1 h2 h3 hgr has hx hxb hxs hgen hk2 hp hp2 htop hrep hsq hep hnow hA hnn htx hkN hfr hwin hc
              generalize bitsOf .or .u64 (xor64 (tagOf (if okK x (sgen kind gen) now c.grace = true then (macKey c.seed (k : Nat) (sgen kind gen)) else ⟨0, 0⟩) tx).a tg.a) (xor64 (tagOf (if okK x (sgen kind gen) now c.grace = true then (macKey c.seed (k : Nat) (sgen kind gen)) else ⟨0, 0⟩) tx).b tg.b) = o2 at *
              generalize okK x (sgen kind gen) now c.grace = o1 at *
              generalize mayP c.window top bits sq = o3 at *
              generalize IntKind.u64.wrap (ep - now) = o4 at *
              try clear hg3 hg4 c1
              cases o1 <;> cases o3 <;> grind
            · skip
              refine TC.env (E' := [(0, _), (4, _), (7, _), (12, _)]) (Sub.cons rfl (Sub.cons rfl (Sub.cons rfl (Sub.cons rfl (Sub.nil _))))) ?_
              refine TC.seq ?_
              refine TC.drawLM mixed 20 ?_
              refine TA.tk 0 1 rfl rfl rfl (Val.fieldAddr rfl fl61_4 sz2 rfl) ?_
              refine TA.tk 1 3 rfl rfl rfl (Val.load 7 rfl ag2 rfl rfl) ?_
              refine TA.tk 2 7 rfl rfl rfl (Val.move rfl) ?_
              refine TA.tk 3 15 rfl rfl rfl (Val.lss rfl rfl) ?_
              refine TA.tk 4 31 rfl rfl rfl (Val.move rfl) ?_
              refine TA.gen (fun g10 hg10 => ?_)
              refine TA.gtk 5 63 rfl rfl rfl rfl rfl (fun hg => by subst hg; exact (Val.fieldAddr rfl fl61_4 sz2 rfl)) ?_
              refine TA.gtk 6 127 rfl rfl rfl rfl rfl (fun hg => by subst hg; exact (Val.load 7 rfl ag2 rfl rfl)) ?_
              refine TA.gtk 7 255 rfl rfl rfl rfl rfl (fun hg => by subst hg; exact (Val.convI rfl iu2 in24 (r := ep) (w_u64 (by omega) (by omega)))) ?_
              refine TA.gtk 8 511 rfl rfl rfl rfl rfl (fun hg => by subst hg; exact (Val.move rfl)) ?_
              refine TA.gtk 9 1023 rfl rfl rfl rfl rfl (fun hg => by subst hg; exact (Val.convI rfl iu2 in24 (r := now) (w_u64 (by omega) (by omega)))) ?_
              refine TA.gtk 10 2047 rfl rfl rfl rfl rfl (fun hg => by subst hg; exact (Val.sub rfl rfl (r := IntKind.u64.wrap (ep - now)) rfl)) ?_
              refine TA.gtk 11 4095 rfl rfl rfl rfl rfl (fun hg => by subst hg; exact (Val.move rfl)) ?_
              refine TA.gtk 12 8191 rfl rfl rfl rfl rfl (fun hg => by subst hg; exact (Val.nilCheck rfl)) ?_
              refine TA.gtk 13 16383 rfl rfl rfl rfl rfl (fun hg => by subst hg; exact (Val.fieldAddr rfl fl117_0 sz26 rfl)) ?_
              refine TA.gtk 14 32767 rfl rfl rfl rfl rfl (fun hg => by subst hg; exact (Val.fieldAddr rfl fl26_4 sz3 rfl)) ?_
              refine TA.gtk 15 65535 rfl rfl rfl rfl rfl (fun hg => by subst hg; exact (Val.load 0 rfl ag3 rfl rfl)) ?_
              refine TA.gtk 16 131071 rfl rfl rfl rfl rfl (fun hg => by subst hg; exact (Val.convI rfl iu3 in24 (r := c.fresh) (w_u64 (by omega) (by omega)))) ?_
              refine TA.gtk 17 262143 rfl rfl rfl rfl rfl (fun hg => by subst hg; exact (Val.geq rfl rfl)) ?_
              refine TA.tk 18 524287 rfl rfl rfl (Val.pickOr rfl rfl rfl) ?_
              refine TA.tk 19 1048575 rfl rfl rfl (Val.assign rfl) ?_
              refine TA.done (by kernel_rfl) ?_
              refine AtX.then ?_
              refine TC.env (E' := [(0, _), (7, _), (12, _), (59, _)]) (Sub.cons rfl (Sub.cons rfl (Sub.cons rfl (Sub.cons rfl (Sub.nil _))))) ?_
              first | refine TC.condP rfl (fun c5 => ?_) (fun c5 => ?_) | refine TC.condN rfl (fun c5 => ?_) (fun c5 => ?_) | refine TC.condB rfl (fun c5 => ?_) (fun c5 => ?_) | refine TC.cond rfl (fun c5 => ?_) (fun c5 => ?_)
              · skip
                refine TC.env (E' := [(12, _)]) (Sub.cons rfl (Sub.nil _)) ?_
                refine TC.seq ?_
                refine TC.region ?_
                refine TL.val rfl rfl (Nat.le_of_ble_eq_true rfl) (Val.assign rfl) ?_
                refine TL.nil ?_
                refine AtX.then ?_
                refine TC.env (E' := [(12, _)]) (Sub.cons rfl (Sub.nil _)) ?_
                refine TC.ret1 (fn := Try.f63) (fun _ _ h => h) rfl (RV.tmp rfl) (M' := (gateO gb c rb (some ⟨nb, 0, none⟩) N cn (some ⟨ob, 0, none⟩) N co ref :: ringO rb c.seed lb N c.grace (asked + 1) :: (lb, row 161 (ones.flatMap On.cs)) :: (nb, row 118 (nws.map pp ++ sn)) :: (ob, row 118 (ols.map pp ++ so)) :: T)) (fun w h => (ro_mv (A := [_, _, _, _, _]) (L := [_, _, _]) w h).drop.drop.drop) ?_
                refine ⟨?_, rfl⟩
                refine congrArg (Value.int .i64) ?_
                unfold chkC
                clear hN h1 h2 h3 hgr has hx hxb hxs hgen hk2 hp hp2 htop hrep hsq hep hnow hA hnn htx hkN hfr hwin hc
                generalize bitsOf .or .u64 (xor64 (tagOf (if okK x (sgen kind gen) now c.grace = true then (macKey c.seed (k : Nat) (sgen kind gen)) else ⟨0, 0⟩) tx).a tg.a) (xor64 (tagOf (if okK x (sgen kind gen) now c.grace = true then (macKey c.seed (k : Nat) (sgen kind gen)) else ⟨0, 0⟩) tx).b tg.b) = o2 at *
                generalize okK x (sgen kind gen) now c.grace = o1 at *
                generalize mayP c.window top bits sq = o3 at *
                generalize IntKind.u64.wrap (ep - now) = o4 at *
                try clear hg3 hg4 c1
                cases o1 <;> cases o3 <;> grind
              · skip
                refine TC.env (E' := [(0, _), (7, _), (12, _)]) (Sub.cons rfl (Sub.cons rfl (Sub.cons rfl (Sub.nil _)))) ?_
                refine TC.seq ?_
                refine TC.drawLM mixed 9 ?_
                refine TA.tk 0 1 rfl rfl rfl (Val.fieldAddr rfl fl61_6 sz3 rfl) ?_
                refine TA.tk 1 3 rfl rfl rfl (Val.load 7 rfl ag3 rfl rfl) ?_
                refine TA.tk 2 7 rfl rfl rfl (Val.move rfl) ?_
                refine TA.tk 3 15 rfl rfl rfl (Val.nilCheck rfl) ?_
                refine TA.tk 4 31 rfl rfl rfl (Val.fieldAddr rfl fl117_0 sz26 rfl) ?_
                refine TA.tk 5 63 rfl rfl rfl (Val.fieldAddr rfl fl26_2 sz3 rfl) ?_
                refine TA.tk 6 127 rfl rfl rfl (Val.load 0 rfl ag3 rfl rfl) ?_
                refine TA.tk 7 255 rfl rfl rfl (Val.geq rfl rfl) ?_
                refine TA.tk 8 511 rfl rfl rfl (Val.assign rfl) ?_
                refine TA.done (by kernel_rfl) ?_
                refine AtX.then ?_
                refine TC.env (E' := [(12, _), (79, _)]) (Sub.cons rfl (Sub.cons rfl (Sub.nil _))) ?_
                first | refine TC.condP rfl (fun c6 => ?_) (fun c6 => ?_) | refine TC.condN rfl (fun c6 => ?_) (fun c6 => ?_) | refine TC.condB rfl (fun c6 => ?_) (fun c6 => ?_) | refine TC.cond rfl (fun c6 => ?_) (fun c6 => ?_)
                · skip
                  refine TC.env (E' := [(12, _)]) (Sub.cons rfl (Sub.nil _)) ?_
                  refine TC.seq ?_
                  refine TC.region ?_
                  refine TL.val rfl rfl (Nat.le_of_ble_eq_true rfl) (Val.assign rfl) ?_
                  refine TL.nil ?_
                  refine AtX.then ?_
                  refine TC.env (E' := [(12, _)]) (Sub.cons rfl (Sub.nil _)) ?_
                  refine TC.ret1 (fn := Try.f63) (fun _ _ h => h) rfl (RV.tmp rfl) (M' := (gateO gb c rb (some ⟨nb, 0, none⟩) N cn (some ⟨ob, 0, none⟩) N co ref :: ringO rb c.seed lb N c.grace (asked + 1) :: (lb, row 161 (ones.flatMap On.cs)) :: (nb, row 118 (nws.map pp ++ sn)) :: (ob, row 118 (ols.map pp ++ so)) :: T)) (fun w h => (ro_mv (A := [_, _, _, _, _]) (L := [_, _, _]) w h).drop.drop.drop) ?_
                  refine ⟨?_, rfl⟩
                  refine congrArg (Value.int .i64) ?_
                  unfold chkC
                  clear hN h1 h2 h3 hgr has hx hxb hxs hgen hk2 hp hp2 htop hrep hsq hep hnow hA hnn htx hkN hfr hwin hc
                  generalize bitsOf .or .u64 (xor64 (tagOf (if okK x (sgen kind gen) now c.grace = true then (macKey c.seed (k : Nat) (sgen kind gen)) else ⟨0, 0⟩) tx).a tg.a) (xor64 (tagOf (if okK x (sgen kind gen) now c.grace = true then (macKey c.seed (k : Nat) (sgen kind gen)) else ⟨0, 0⟩) tx).b tg.b) = o2 at *
                  generalize okK x (sgen kind gen) now c.grace = o1 at *
                  generalize mayP c.window top bits sq = o3 at *
                  generalize IntKind.u64.wrap (ep - now) = o4 at *
                  try clear hg3 hg4 c1
                  cases o1 <;> cases o3 <;> grind
                · skip
                  refine TC.env (E' := [(12, _)]) (Sub.cons rfl (Sub.nil _)) ?_
                  refine TC.skip ?_
                  refine AtX.blk ?_
                  refine AtX.then ?_
                  refine TC.env (E' := [(12, _)]) (Sub.cons rfl (Sub.nil _)) ?_
                  refine TC.seq ?_
                  refine TC.region ?_
                  refine TL.val rfl rfl (Nat.le_of_ble_eq_true rfl) (Val.assign rfl) ?_
                  refine TL.nil ?_
                  refine AtX.then ?_
                  refine TC.env (E' := [(12, _)]) (Sub.cons rfl (Sub.nil _)) ?_
                  refine TC.ret1 (fn := Try.f63) (fun _ _ h => h) rfl (RV.tmp rfl) (M' := (gateO gb c rb (some ⟨nb, 0, none⟩) N cn (some ⟨ob, 0, none⟩) N co ref :: ringO rb c.seed lb N c.grace (asked + 1) :: (lb, row 161 (ones.flatMap On.cs)) :: (nb, row 118 (nws.map pp ++ sn)) :: (ob, row 118 (ols.map pp ++ so)) :: T)) (fun w h => (ro_mv (A := [_, _, _, _, _]) (L := [_, _, _]) w h).drop.drop.drop) ?_
                  refine ⟨?_, rfl⟩
                  refine congrArg (Value.int .i64) ?_
                  unfold chkC
                  clear hN h1 h2 h3 hgr has hx hxb hxs hgen hk2 hp hp2 htop hrep hsq hep hnow hA hnn htx hkN hfr hwin hc
                  generalize bitsOf .or .u64 (xor64 (tagOf (if okK x (sgen kind gen) now c.grace = true then (macKey c.seed (k : Nat) (sgen kind gen)) else ⟨0, 0⟩) tx).a tg.a) (xor64 (tagOf (if okK x (sgen kind gen) now c.grace = true then (macKey c.seed (k : Nat) (sgen kind gen)) else ⟨0, 0⟩) tx).b tg.b) = o2 at *
                  generalize okK x (sgen kind gen) now c.grace = o1 at *
                  generalize mayP c.window top bits sq = o3 at *
                  generalize IntKind.u64.wrap (ep - now) = o4 at *
                  try clear hg3 hg4 c1
                  cases o1 <;> cases o3 <;> grind
    | true =>
      (exfalso; simp at hg4)
  | true =>
    (exfalso; grind)

end Go.Proofs.Ytphoapajlcaoeaa
