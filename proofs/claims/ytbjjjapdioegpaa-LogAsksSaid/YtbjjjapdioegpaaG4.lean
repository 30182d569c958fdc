/- walks -/
import Derived.Test.YtbjjjapdioegpaaG3
import Derived.Test.YtbjjjapdioegpaaES18b
import Derived.Test.YtbjjjapdioegpaaE8
set_option linter.unusedVariables false
set_option linter.unusedSimpArgs false
set_option maxRecDepth 100000
set_option maxHeartbeats 4000000
namespace Go.Proofs.Ytbjjjapdioegpaa
open Go Go.X

theorem Get_put (p pl kd : Int) (d : List UInt8) (A : Option Addr) (n c : Nat) (M : Hp) (hA : RdS M A (bv (cellB p pl kd d))) (hn : n = 64) (hcap : 64 ≤ c) (hm : mayC p pl kd d.length = true) :
    FnC Try.prog 12 #[.slice A n c] M (fun v M' => ∃ σ, v = .tuple #[.agg #[.int .u32 p, .int .i64 pl, .int .i64 kd, .slice (slA σ) d.length (slC σ)], .bool true, .int .i64 0] ∧ slOk σ 1 d.length (bv d) ∧ M' = M ++ slH σ 5 (bv d)) := by
  have h := Get_d (cellB p pl kd d) A n c M hA (by rw [hn, cell_len hm]) (by rw [cell_len hm]; exact hcap) (cell_len hm) (cell_whole hm) (cell_may hm)
  refine h.mono fun v M' hR => ?_
  rcases hR with ⟨hne, _⟩ | ⟨_, σ, hv, hok, hM⟩
  · exact absurd (cell_again hm) hne
  · rw [cell_pass hm, cell_pl hm, cell_kd hm, cell_d hm] at hv
    rw [cell_d hm] at hok hM
    exact ⟨σ, hv, hok, hM⟩
theorem Get_sum (l : List UInt8) (A : Option Addr) (n c : Nat) (M : Hp) (hA : RdS M A (bv l)) (hn : n = l.length) (hcap : l.length ≤ c) (hl : l.length = 64) (hw : wholeB l = true) (hm : mayL l = true) (hne : againB l ≠ l) :
    FnC Try.prog 12 #[.slice A n c] M (fun v M' => v = .tuple #[zeroC, .bool true, .int .i64 12] ∧ M = M') := by
  refine (Get_d l A n c M hA hn hcap hl hw hm).mono fun v M' hR => ?_
  rcases hR with ⟨_, h⟩ | ⟨h, _⟩
  · exact h
  · exact absurd h hne
/-- quorumite/quorumitelaw18.told -/
theorem told_fn (M : Hp) : FnC Try.prog 9 #[] M (fun v M' => v = .bool true ∧ M = M') := by
  have hwb : wholeB ((cellB 3 258 2 [97, 98]).set 8 120) = true := by decide +kernel
  have hmb : mayL ((cellB 3 258 2 [97, 98]).set 8 120) = true := by decide +kernel
  have hnb : againB ((cellB 3 258 2 [97, 98]).set 8 120) ≠ (cellB 3 258 2 [97, 98]).set 8 120 := by decide +kernel
  have hm : mayC 3 258 2 [(97 : UInt8), 98].length = true := by decide
  have e0 : ((cellB 3 258 2 [97, 98]).getD 0 0).toNat = 3 := by rw [cell_head]; decide
  have e4 : ((cellB 3 258 2 [97, 98]).getD 4 0).toNat = 2 := by rw [cell_head]; decide
  have e5 : ((cellB 3 258 2 [97, 98]).getD 5 0).toNat = 1 := by rw [cell_head]; decide
  have e6 : ((cellB 3 258 2 [97, 98]).getD 6 0).toNat = 2 := by rw [cell_head]; decide
  have e7 : ((cellB 3 258 2 [97, 98]).getD 7 0).toNat = 2 := by rw [cell_head]; decide
  have e63 : ((cellB 3 258 2 [97, 98]).getD 63 0).toNat = 3 := by rw [cell_last hm]; decide
  refine FnC.intro Try.func9 rfl 155 rfl (by simp) (fun z => ?_)
  refine TC.env (E' := []) (Sub.nil _) ?_
  refine TC.seq ?_
  refine TC.region ?_
  refine TL.val rfl rfl (Nat.le_of_ble_eq_true rfl) (Val.assign rfl) ?_
  refine TL.nil ?_
  refine AtX.then ?_
  refine TC.seq ?_
  refine TC.region ?_
  refine TL.does (some 19) rfl rfl rfl (Does.buildSlice sl23 sz5 ze5 (by decide) (by decide) rfl rfl rfl) ?_
  rintro _ _ ⟨b1, rfl, rfl⟩
  refine TL.does (some 20) rfl rfl rfl (Does.convSl (i := 0) rfl us23 ui5 rfl rfl) ?_
  rintro _ _ ⟨rfl, rfl⟩
  refine TL.val rfl rfl (Nat.le_of_ble_eq_true rfl) (Val.buildS pl31 ze31 rfl rfl) ?_
  refine TL.does (some 1) rfl rfl rfl (Does.alloc ze31 rfl) ?_
  rintro _ _ ⟨b2, rfl, rfl⟩
  first
    | refine TL.does none rfl rfl rfl (Does.store (i := 0) rfl rfl rfl sz31 rfl rfl (by first | decide | omega) rfl rfl) ?_
    | refine TL.does none rfl rfl rfl (Does.store (i := 1) rfl rfl rfl sz31 rfl rfl (by first | decide | omega) rfl rfl) ?_
    | refine TL.does none rfl rfl rfl (Does.store (i := 2) rfl rfl rfl sz31 rfl rfl (by first | decide | omega) rfl rfl) ?_
    | refine TL.does none rfl rfl rfl (Does.store (i := 3) rfl rfl rfl sz31 rfl rfl (by first | decide | omega) rfl rfl) ?_
    | refine TL.does none rfl rfl rfl (Does.store (i := 4) rfl rfl rfl sz31 rfl rfl (by first | decide | omega) rfl rfl) ?_
    | refine TL.does none rfl rfl rfl (Does.store (i := 5) rfl rfl rfl sz31 rfl rfl (by first | decide | omega) rfl rfl) ?_
    | refine TL.does none rfl rfl rfl (Does.store (i := 6) rfl rfl rfl sz31 rfl rfl (by first | decide | omega) rfl rfl) ?_
    | refine TL.does none rfl rfl rfl (Does.store (i := 7) rfl rfl rfl sz31 rfl rfl (by first | decide | omega) rfl rfl) ?_
    | refine TL.does none rfl rfl rfl (Does.store (i := 8) rfl rfl rfl sz31 rfl rfl (by first | decide | omega) rfl rfl) ?_
    | refine TL.does none rfl rfl rfl (Does.store (i := 9) rfl rfl rfl sz31 rfl rfl (by first | decide | omega) rfl rfl) ?_
    | refine TL.does none rfl rfl rfl (Does.store (i := 10) rfl rfl rfl sz31 rfl rfl (by first | decide | omega) rfl rfl) ?_
    | refine TL.does none rfl rfl rfl (Does.store (i := 11) rfl rfl rfl sz31 rfl rfl (by first | decide | omega) rfl rfl) ?_
  rintro _ _ ⟨rfl, rfl⟩
  refine TL.nil ?_
  refine AtX.then ?_
  refine TC.env (E' := [(0, _), (1, _)]) (Sub.cons rfl (Sub.cons rfl (Sub.nil _))) ?_
  refine TC.seq ?_
  refine TC.region ?_
  first
    | refine TL.val rfl rfl (Nat.le_of_ble_eq_true rfl) (Val.loadAgg 0 rfl ag31 sz31 rfl rfl rfl) ?_
    | refine TL.val rfl rfl (Nat.le_of_ble_eq_true rfl) (Val.loadAgg 1 rfl ag31 sz31 rfl rfl rfl) ?_
    | refine TL.val rfl rfl (Nat.le_of_ble_eq_true rfl) (Val.loadAgg 2 rfl ag31 sz31 rfl rfl rfl) ?_
    | refine TL.val rfl rfl (Nat.le_of_ble_eq_true rfl) (Val.loadAgg 3 rfl ag31 sz31 rfl rfl rfl) ?_
    | refine TL.val rfl rfl (Nat.le_of_ble_eq_true rfl) (Val.loadAgg 4 rfl ag31 sz31 rfl rfl rfl) ?_
    | refine TL.val rfl rfl (Nat.le_of_ble_eq_true rfl) (Val.loadAgg 5 rfl ag31 sz31 rfl rfl rfl) ?_
    | refine TL.val rfl rfl (Nat.le_of_ble_eq_true rfl) (Val.loadAgg 6 rfl ag31 sz31 rfl rfl rfl) ?_
    | refine TL.val rfl rfl (Nat.le_of_ble_eq_true rfl) (Val.loadAgg 7 rfl ag31 sz31 rfl rfl rfl) ?_
    | refine TL.val rfl rfl (Nat.le_of_ble_eq_true rfl) (Val.loadAgg 8 rfl ag31 sz31 rfl rfl rfl) ?_
    | refine TL.val rfl rfl (Nat.le_of_ble_eq_true rfl) (Val.loadAgg 9 rfl ag31 sz31 rfl rfl rfl) ?_
    | refine TL.val rfl rfl (Nat.le_of_ble_eq_true rfl) (Val.loadAgg 10 rfl ag31 sz31 rfl rfl rfl) ?_
    | refine TL.val rfl rfl (Nat.le_of_ble_eq_true rfl) (Val.loadAgg 11 rfl ag31 sz31 rfl rfl rfl) ?_
  refine TL.does (some 24) rfl rfl rfl (Does.callF go10 rfl (Put_fn 3 258 2 [97, 98] _ 2 2 _ (.some (Rd.get (i := 1) rfl rfl)) rfl hm)) ?_
  rintro _ _ ⟨bP, cP, spP, rfl, hcP, rfl⟩
  refine TL.val rfl rfl (Nat.le_of_ble_eq_true rfl) (Val.move rfl) ?_
  refine TL.val rfl rfl (Nat.le_of_ble_eq_true rfl) (Val.extract rfl rfl) ?_
  refine TL.val rfl rfl (Nat.le_of_ble_eq_true rfl) (Val.extract rfl rfl) ?_
  refine TL.val rfl rfl (Nat.le_of_ble_eq_true rfl) (Val.assign rfl) ?_
  refine TL.val rfl rfl (Nat.le_of_ble_eq_true rfl) (Val.assign rfl) ?_
  refine TL.nil ?_
  refine AtX.then ?_
  refine TC.env (E' := [(0, _), (1, _), (2, _), (3, _)]) (Sub.cons rfl (Sub.cons rfl (Sub.cons rfl (Sub.cons rfl (Sub.nil _))))) ?_
  refine TC.seq ?_
  refine TC.region ?_
  refine TL.val rfl rfl (Nat.le_of_ble_eq_true rfl) (Val.move rfl) ?_
  refine TL.does (some 29) rfl rfl rfl (Does.callF go12 rfl (Get_put 3 258 2 [97, 98] _ _ _ _ (rd_all (i := 0) rfl) rfl (by omega) hm)) ?_
  rintro _ _ ⟨σ3, rfl, hok3, rfl⟩
  refine TL.val rfl rfl (Nat.le_of_ble_eq_true rfl) (Val.move rfl) ?_
  refine TL.val rfl rfl (Nat.le_of_ble_eq_true rfl) (Val.extract rfl rfl) ?_
  refine TL.val rfl rfl (Nat.le_of_ble_eq_true rfl) (Val.extract rfl rfl) ?_
  refine TL.val rfl rfl (Nat.le_of_ble_eq_true rfl) (Val.extract rfl rfl) ?_
  refine TL.does (some 4) rfl rfl rfl (Does.alloc ze31 rfl) ?_
  rintro _ _ ⟨b5, rfl, rfl⟩
  first
    | refine TL.does none rfl rfl rfl (Does.store (i := 0) rfl rfl rfl sz31 rfl rfl (by first | decide | omega) rfl rfl) ?_
    | refine TL.does none rfl rfl rfl (Does.store (i := 1) rfl rfl rfl sz31 rfl rfl (by first | decide | omega) rfl rfl) ?_
    | refine TL.does none rfl rfl rfl (Does.store (i := 2) rfl rfl rfl sz31 rfl rfl (by first | decide | omega) rfl rfl) ?_
    | refine TL.does none rfl rfl rfl (Does.store (i := 3) rfl rfl rfl sz31 rfl rfl (by first | decide | omega) rfl rfl) ?_
    | refine TL.does none rfl rfl rfl (Does.store (i := 4) rfl rfl rfl sz31 rfl rfl (by first | decide | omega) rfl rfl) ?_
    | refine TL.does none rfl rfl rfl (Does.store (i := 5) rfl rfl rfl sz31 rfl rfl (by first | decide | omega) rfl rfl) ?_
    | refine TL.does none rfl rfl rfl (Does.store (i := 6) rfl rfl rfl sz31 rfl rfl (by first | decide | omega) rfl rfl) ?_
    | refine TL.does none rfl rfl rfl (Does.store (i := 7) rfl rfl rfl sz31 rfl rfl (by first | decide | omega) rfl rfl) ?_
    | refine TL.does none rfl rfl rfl (Does.store (i := 8) rfl rfl rfl sz31 rfl rfl (by first | decide | omega) rfl rfl) ?_
    | refine TL.does none rfl rfl rfl (Does.store (i := 9) rfl rfl rfl sz31 rfl rfl (by first | decide | omega) rfl rfl) ?_
    | refine TL.does none rfl rfl rfl (Does.store (i := 10) rfl rfl rfl sz31 rfl rfl (by first | decide | omega) rfl rfl) ?_
    | refine TL.does none rfl rfl rfl (Does.store (i := 11) rfl rfl rfl sz31 rfl rfl (by first | decide | omega) rfl rfl) ?_
  rintro _ _ ⟨rfl, rfl⟩
  refine TL.val rfl rfl (Nat.le_of_ble_eq_true rfl) (Val.assign rfl) ?_
  refine TL.val rfl rfl (Nat.le_of_ble_eq_true rfl) (Val.assign rfl) ?_
  refine TL.nil ?_
  refine AtX.then ?_
  refine TC.env (E' := [(0, _), (1, _), (2, _), (3, _), (4, _), (5, _), (6, _)]) (Sub.cons rfl (Sub.cons rfl (Sub.cons rfl (Sub.cons rfl (Sub.cons rfl (Sub.cons rfl (Sub.cons rfl (Sub.nil _)))))))) ?_
  refine TC.seq ?_
  refine TC.region ?_
  refine TL.does (some 34) rfl rfl rfl (Does.makeSlice (n := 64) (c := 64) rfl rfl sl23 sz5 by5 ze5 rfl rfl rfl (by first | decide | omega) (by first | decide | omega) (by first | decide | omega)) ?_
  rintro _ _ ⟨b6, rfl, rfl⟩
  refine TL.does (some 35) rfl rfl rfl (Does.callF go12 rfl (Get_b (List.replicate 64 0) _ _ _ _ (by rw [← zrep_bytes]; exact .some (Rd.get (i := 0) rfl rfl)) rfl rfl (by decide))) ?_
  rintro _ _ ⟨rfl, rfl⟩
  refine TL.val rfl rfl (Nat.le_of_ble_eq_true rfl) (Val.move rfl) ?_
  refine TL.val rfl rfl (Nat.le_of_ble_eq_true rfl) (Val.extract rfl rfl) ?_
  refine TL.val rfl rfl (Nat.le_of_ble_eq_true rfl) (Val.extract rfl rfl) ?_
  refine TL.val rfl rfl (Nat.le_of_ble_eq_true rfl) (Val.extract rfl rfl) ?_
  refine TL.does (some 7) rfl rfl rfl (Does.alloc ze31 rfl) ?_
  rintro _ _ ⟨b8, rfl, rfl⟩
  first
    | refine TL.does none rfl rfl rfl (Does.store (i := 0) rfl rfl rfl sz31 rfl rfl (by first | decide | omega) rfl rfl) ?_
    | refine TL.does none rfl rfl rfl (Does.store (i := 1) rfl rfl rfl sz31 rfl rfl (by first | decide | omega) rfl rfl) ?_
    | refine TL.does none rfl rfl rfl (Does.store (i := 2) rfl rfl rfl sz31 rfl rfl (by first | decide | omega) rfl rfl) ?_
    | refine TL.does none rfl rfl rfl (Does.store (i := 3) rfl rfl rfl sz31 rfl rfl (by first | decide | omega) rfl rfl) ?_
    | refine TL.does none rfl rfl rfl (Does.store (i := 4) rfl rfl rfl sz31 rfl rfl (by first | decide | omega) rfl rfl) ?_
    | refine TL.does none rfl rfl rfl (Does.store (i := 5) rfl rfl rfl sz31 rfl rfl (by first | decide | omega) rfl rfl) ?_
    | refine TL.does none rfl rfl rfl (Does.store (i := 6) rfl rfl rfl sz31 rfl rfl (by first | decide | omega) rfl rfl) ?_
    | refine TL.does none rfl rfl rfl (Does.store (i := 7) rfl rfl rfl sz31 rfl rfl (by first | decide | omega) rfl rfl) ?_
    | refine TL.does none rfl rfl rfl (Does.store (i := 8) rfl rfl rfl sz31 rfl rfl (by first | decide | omega) rfl rfl) ?_
    | refine TL.does none rfl rfl rfl (Does.store (i := 9) rfl rfl rfl sz31 rfl rfl (by first | decide | omega) rfl rfl) ?_
    | refine TL.does none rfl rfl rfl (Does.store (i := 10) rfl rfl rfl sz31 rfl rfl (by first | decide | omega) rfl rfl) ?_
    | refine TL.does none rfl rfl rfl (Does.store (i := 11) rfl rfl rfl sz31 rfl rfl (by first | decide | omega) rfl rfl) ?_
  rintro _ _ ⟨rfl, rfl⟩
  refine TL.val rfl rfl (Nat.le_of_ble_eq_true rfl) (Val.assign rfl) ?_
  refine TL.val rfl rfl (Nat.le_of_ble_eq_true rfl) (Val.assign rfl) ?_
  refine TL.nil ?_
  refine AtX.then ?_
  refine TC.env (E' := [(0, _), (1, _), (2, _), (3, _), (4, _), (5, _), (6, _), (8, _), (9, _)]) (Sub.cons rfl (Sub.cons rfl (Sub.cons rfl (Sub.cons rfl (Sub.cons rfl (Sub.cons rfl (Sub.cons rfl (Sub.cons rfl (Sub.cons rfl (Sub.nil _)))))))))) ?_
  refine TC.seq ?_
  refine TC.region ?_
  refine TL.does (some 40) rfl rfl rfl (Does.callF go12 rfl (Get_a [] _ _ _ _ (.nil _ _) rfl (by decide))) ?_
  rintro _ _ ⟨rfl, rfl⟩
  refine TL.val rfl rfl (Nat.le_of_ble_eq_true rfl) (Val.move rfl) ?_
  refine TL.val rfl rfl (Nat.le_of_ble_eq_true rfl) (Val.extract rfl rfl) ?_
  refine TL.val rfl rfl (Nat.le_of_ble_eq_true rfl) (Val.extract rfl rfl) ?_
  refine TL.val rfl rfl (Nat.le_of_ble_eq_true rfl) (Val.extract rfl rfl) ?_
  refine TL.does (some 10) rfl rfl rfl (Does.alloc ze31 rfl) ?_
  rintro _ _ ⟨b10, rfl, rfl⟩
  first
    | refine TL.does none rfl rfl rfl (Does.store (i := 0) rfl rfl rfl sz31 rfl rfl (by first | decide | omega) rfl rfl) ?_
    | refine TL.does none rfl rfl rfl (Does.store (i := 1) rfl rfl rfl sz31 rfl rfl (by first | decide | omega) rfl rfl) ?_
    | refine TL.does none rfl rfl rfl (Does.store (i := 2) rfl rfl rfl sz31 rfl rfl (by first | decide | omega) rfl rfl) ?_
    | refine TL.does none rfl rfl rfl (Does.store (i := 3) rfl rfl rfl sz31 rfl rfl (by first | decide | omega) rfl rfl) ?_
    | refine TL.does none rfl rfl rfl (Does.store (i := 4) rfl rfl rfl sz31 rfl rfl (by first | decide | omega) rfl rfl) ?_
    | refine TL.does none rfl rfl rfl (Does.store (i := 5) rfl rfl rfl sz31 rfl rfl (by first | decide | omega) rfl rfl) ?_
    | refine TL.does none rfl rfl rfl (Does.store (i := 6) rfl rfl rfl sz31 rfl rfl (by first | decide | omega) rfl rfl) ?_
    | refine TL.does none rfl rfl rfl (Does.store (i := 7) rfl rfl rfl sz31 rfl rfl (by first | decide | omega) rfl rfl) ?_
    | refine TL.does none rfl rfl rfl (Does.store (i := 8) rfl rfl rfl sz31 rfl rfl (by first | decide | omega) rfl rfl) ?_
    | refine TL.does none rfl rfl rfl (Does.store (i := 9) rfl rfl rfl sz31 rfl rfl (by first | decide | omega) rfl rfl) ?_
    | refine TL.does none rfl rfl rfl (Does.store (i := 10) rfl rfl rfl sz31 rfl rfl (by first | decide | omega) rfl rfl) ?_
    | refine TL.does none rfl rfl rfl (Does.store (i := 11) rfl rfl rfl sz31 rfl rfl (by first | decide | omega) rfl rfl) ?_
  rintro _ _ ⟨rfl, rfl⟩
  refine TL.val rfl rfl (Nat.le_of_ble_eq_true rfl) (Val.assign rfl) ?_
  refine TL.val rfl rfl (Nat.le_of_ble_eq_true rfl) (Val.assign rfl) ?_
  refine TL.nil ?_
  refine AtX.then ?_
  refine TC.env (E' := [(0, _), (1, _), (2, _), (3, _), (4, _), (5, _), (6, _), (8, _), (9, _), (12, _)]) (Sub.cons rfl (Sub.cons rfl (Sub.cons rfl (Sub.cons rfl (Sub.cons rfl (Sub.cons rfl (Sub.cons rfl (Sub.cons rfl (Sub.cons rfl (Sub.cons rfl (Sub.nil _))))))))))) ?_
  refine TC.seq ?_
  refine TC.region ?_
  refine TL.val rfl rfl (Nat.le_of_ble_eq_true rfl) (Val.buildS pl31 ze31 rfl rfl) ?_
  refine TL.does (some 46) rfl rfl rfl (Does.callF go10 rfl (Put_no _ _ _ _ _ _ _ (by decide))) ?_
  rintro _ _ ⟨rfl, rfl⟩
  refine TL.val rfl rfl (Nat.le_of_ble_eq_true rfl) (Val.move rfl) ?_
  refine TL.val rfl rfl (Nat.le_of_ble_eq_true rfl) (Val.extract rfl rfl) ?_
  refine TL.val rfl rfl (Nat.le_of_ble_eq_true rfl) (Val.extract rfl rfl) ?_
  refine TL.val rfl rfl (Nat.le_of_ble_eq_true rfl) (Val.assign rfl) ?_
  refine TL.val rfl rfl (Nat.le_of_ble_eq_true rfl) (Val.assign rfl) ?_
  refine TL.nil ?_
  refine AtX.then ?_
  refine TC.env (E' := [(0, _), (1, _), (2, _), (3, _), (4, _), (5, _), (6, _), (8, _), (9, _), (12, _), (14, _)]) (Sub.cons rfl (Sub.cons rfl (Sub.cons rfl (Sub.cons rfl (Sub.cons rfl (Sub.cons rfl (Sub.cons rfl (Sub.cons rfl (Sub.cons rfl (Sub.cons rfl (Sub.cons rfl (Sub.nil _)))))))))))) ?_
  refine TC.seq ?_
  refine TC.seq ?_
  refine TC.region ?_
  refine TL.val rfl rfl (Nat.le_of_ble_eq_true rfl) (Val.move rfl) ?_
  refine TL.val rfl rfl (Nat.le_of_ble_eq_true rfl) (Val.lenSl rfl rfl sl23) ?_
  refine TL.val rfl rfl (Nat.le_of_ble_eq_true rfl) (Val.neqI rfl rfl) ?_
  refine TL.nil ?_
  refine AtX.then ?_
  refine TC.env (E' := [(0, _), (1, _), (2, _), (3, _), (4, _), (5, _), (6, _), (8, _), (9, _), (12, _), (14, _), (51, _)]) (Sub.cons rfl (Sub.cons rfl (Sub.cons rfl (Sub.cons rfl (Sub.cons rfl (Sub.cons rfl (Sub.cons rfl (Sub.cons rfl (Sub.cons rfl (Sub.cons rfl (Sub.cons rfl (Sub.cons rfl (Sub.nil _))))))))))))) ?_
  first | refine TC.condP rfl (fun c1 => ?_) (fun c1 => ?_) | refine TC.condN rfl (fun c1 => ?_) (fun c1 => ?_) | refine TC.condB rfl (fun c1 => ?_) (fun c1 => ?_) | refine TC.cond rfl (fun c1 => ?_) (fun c1 => ?_)
  · skip
    exact absurd rfl c1
  · skip
    refine TC.env (E' := [(0, _), (1, _), (2, _), (3, _), (4, _), (5, _), (6, _), (8, _), (9, _), (12, _), (14, _)]) (Sub.cons rfl (Sub.cons rfl (Sub.cons rfl (Sub.cons rfl (Sub.cons rfl (Sub.cons rfl (Sub.cons rfl (Sub.cons rfl (Sub.cons rfl (Sub.cons rfl (Sub.cons rfl (Sub.nil _)))))))))))) ?_
    refine TC.skip ?_
    refine AtX.then ?_
    refine TC.env (E' := [(0, _), (1, _), (2, _), (3, _), (4, _), (5, _), (6, _), (8, _), (9, _), (12, _), (14, _)]) (Sub.cons rfl (Sub.cons rfl (Sub.cons rfl (Sub.cons rfl (Sub.cons rfl (Sub.cons rfl (Sub.cons rfl (Sub.cons rfl (Sub.cons rfl (Sub.cons rfl (Sub.cons rfl (Sub.nil _)))))))))))) ?_
    refine TC.seq ?_
    refine TC.region ?_
    refine TL.does (some 52) rfl rfl rfl (Does.buildSlice0 sl23 sz5) ?_
    rintro _ _ ⟨b90, rfl, rfl⟩
    refine TL.val rfl rfl (Nat.le_of_ble_eq_true rfl) (Val.move rfl) ?_
    refine TL.does (some 54) rfl rfl rfl (Does.appendS (xs := []) (ys := bv (cellB 3 258 2 [97, 98])) (n := 0) (some (b90, 0, [])) _ ro_refl rfl rfl sl23 sz5 by5 ze5 rfl ⟨rfl, rfl⟩ (srcB us23 (by first | exact rd_all (i := 0) rfl | exact rd_all (i := 1) rfl | exact rd_all (i := 2) rfl | exact rd_all (i := 3) rfl | exact rd_all (i := 4) rfl | exact rd_all (i := 5) rfl | exact rd_all (i := 6) rfl | exact rd_all (i := 7) rfl)) (by rw [bv_len, cell_len hm]) (bv_one _) (by omega) (by omega)) ?_
    rintro _ _ ⟨σ9, rfl, hok9, rfl⟩
    obtain ⟨b9, c9, sp9, rfl, hc9⟩ := hok9.some (by omega)
    rw [List.nil_append]
    refine TL.val rfl rfl (Nat.le_of_ble_eq_true rfl) (Val.assign rfl) ?_
    refine TL.nil ?_
    refine AtX.then ?_
    refine TC.env (E' := [(0, _), (1, _), (2, _), (3, _), (4, _), (5, _), (6, _), (8, _), (9, _), (12, _), (14, _), (15, _)]) (Sub.cons rfl (Sub.cons rfl (Sub.cons rfl (Sub.cons rfl (Sub.cons rfl (Sub.cons rfl (Sub.cons rfl (Sub.cons rfl (Sub.cons rfl (Sub.cons rfl (Sub.cons rfl (Sub.cons rfl (Sub.nil _))))))))))))) ?_
    refine TC.seq ?_
    refine TC.region ?_
    refine TL.val rfl rfl (Nat.le_of_ble_eq_true rfl) (Val.move rfl) ?_
    refine TL.val rfl rfl (Nat.le_of_ble_eq_true rfl) (Val.indexAddr (i := 8) rfl rfl sl23 sz5 rfl (by first | decide | omega) rfl) ?_
    refine TL.does none rfl rfl rfl (Does.storeB (c := 120) rfl rfl (i := 0) rfl rfl (by rw [cell_len hm]; decide) sz5) ?_
    rintro _ _ ⟨rfl, rfl⟩
    refine TL.nil ?_
    refine AtX.then ?_
    refine TC.env (E' := [(0, _), (1, _), (2, _), (3, _), (4, _), (5, _), (6, _), (8, _), (9, _), (12, _), (14, _), (15, _)]) (Sub.cons rfl (Sub.cons rfl (Sub.cons rfl (Sub.cons rfl (Sub.cons rfl (Sub.cons rfl (Sub.cons rfl (Sub.cons rfl (Sub.cons rfl (Sub.cons rfl (Sub.cons rfl (Sub.cons rfl (Sub.nil _))))))))))))) ?_
    refine TC.seq ?_
    refine TC.region ?_
    refine TL.val rfl rfl (Nat.le_of_ble_eq_true rfl) (Val.move rfl) ?_
    refine TL.does (some 59) rfl rfl rfl (Does.callF go12 rfl (Get_sum ((cellB 3 258 2 [97, 98]).set 8 120) _ _ _ _ (rd_all (i := 0) rfl) (by rw [List.length_set, cell_len hm]) (by have := hc9; simp at this; have h64 := cell_len hm; simp only [List.length_set, h64, slC] at this ⊢; omega) (by rw [List.length_set, cell_len hm]) hwb hmb hnb)) ?_
    rintro _ _ ⟨rfl, rfl⟩
    refine TL.val rfl rfl (Nat.le_of_ble_eq_true rfl) (Val.move rfl) ?_
    refine TL.val rfl rfl (Nat.le_of_ble_eq_true rfl) (Val.extract rfl rfl) ?_
    refine TL.val rfl rfl (Nat.le_of_ble_eq_true rfl) (Val.extract rfl rfl) ?_
    refine TL.val rfl rfl (Nat.le_of_ble_eq_true rfl) (Val.extract rfl rfl) ?_
    refine TL.does (some 16) rfl rfl rfl (Does.alloc ze31 rfl) ?_
    rintro _ _ ⟨b13, rfl, rfl⟩
    first
      | refine TL.does none rfl rfl rfl (Does.store (i := 0) rfl rfl rfl sz31 rfl rfl (by first | decide | omega) rfl rfl) ?_
      | refine TL.does none rfl rfl rfl (Does.store (i := 1) rfl rfl rfl sz31 rfl rfl (by first | decide | omega) rfl rfl) ?_
      | refine TL.does none rfl rfl rfl (Does.store (i := 2) rfl rfl rfl sz31 rfl rfl (by first | decide | omega) rfl rfl) ?_
      | refine TL.does none rfl rfl rfl (Does.store (i := 3) rfl rfl rfl sz31 rfl rfl (by first | decide | omega) rfl rfl) ?_
      | refine TL.does none rfl rfl rfl (Does.store (i := 4) rfl rfl rfl sz31 rfl rfl (by first | decide | omega) rfl rfl) ?_
      | refine TL.does none rfl rfl rfl (Does.store (i := 5) rfl rfl rfl sz31 rfl rfl (by first | decide | omega) rfl rfl) ?_
      | refine TL.does none rfl rfl rfl (Does.store (i := 6) rfl rfl rfl sz31 rfl rfl (by first | decide | omega) rfl rfl) ?_
      | refine TL.does none rfl rfl rfl (Does.store (i := 7) rfl rfl rfl sz31 rfl rfl (by first | decide | omega) rfl rfl) ?_
      | refine TL.does none rfl rfl rfl (Does.store (i := 8) rfl rfl rfl sz31 rfl rfl (by first | decide | omega) rfl rfl) ?_
      | refine TL.does none rfl rfl rfl (Does.store (i := 9) rfl rfl rfl sz31 rfl rfl (by first | decide | omega) rfl rfl) ?_
      | refine TL.does none rfl rfl rfl (Does.store (i := 10) rfl rfl rfl sz31 rfl rfl (by first | decide | omega) rfl rfl) ?_
      | refine TL.does none rfl rfl rfl (Does.store (i := 11) rfl rfl rfl sz31 rfl rfl (by first | decide | omega) rfl rfl) ?_
    rintro _ _ ⟨rfl, rfl⟩
    refine TL.val rfl rfl (Nat.le_of_ble_eq_true rfl) (Val.assign rfl) ?_
    refine TL.val rfl rfl (Nat.le_of_ble_eq_true rfl) (Val.assign rfl) ?_
    refine TL.nil ?_
    refine AtX.then ?_
    refine TC.env (E' := [(0, _), (1, _), (2, _), (3, _), (4, _), (5, _), (6, _), (8, _), (9, _), (12, _), (14, _), (17, _), (18, _)]) (Sub.cons rfl (Sub.cons rfl (Sub.cons rfl (Sub.cons rfl (Sub.cons rfl (Sub.cons rfl (Sub.cons rfl (Sub.cons rfl (Sub.cons rfl (Sub.cons rfl (Sub.cons rfl (Sub.cons rfl (Sub.cons rfl (Sub.nil _)))))))))))))) ?_
    refine TC.seq ?_
    refine TC.region ?_
    refine TL.val rfl rfl (Nat.le_of_ble_eq_true rfl) (Val.move rfl) ?_
    refine TL.val rfl rfl (Nat.le_of_ble_eq_true rfl) (Val.same (v' := .bool true) (Val.eqlI rfl rfl) (by simp)) ?_
    refine TL.val rfl rfl (Nat.le_of_ble_eq_true rfl) (Val.move rfl) ?_
    refine TL.valYes rfl rfl (Nat.le_of_ble_eq_true rfl) rfl (Nat.le_of_ble_eq_true rfl) rfl (Val.move rfl) ?_
    refine TL.valYes rfl rfl (Nat.le_of_ble_eq_true rfl) rfl (Nat.le_of_ble_eq_true rfl) rfl (Val.indexAddr (i := 0) rfl rfl sl23 sz5 rfl (by first | decide | omega) rfl) ?_
    first
      | refine TL.valYes rfl rfl (Nat.le_of_ble_eq_true rfl) rfl (Nat.le_of_ble_eq_true rfl) rfl (Val.loadB 0 rfl ag5 (rd_allR (l := (cellB 3 258 2 [97, 98])) (i := 0) rfl) (by simp) (by rw [cell_len hm]; decide)) ?_
      | refine TL.valYes rfl rfl (Nat.le_of_ble_eq_true rfl) rfl (Nat.le_of_ble_eq_true rfl) rfl (Val.loadB 0 rfl ag5 (rd_allR (l := (cellB 3 258 2 [97, 98])) (i := 1) rfl) (by simp) (by rw [cell_len hm]; decide)) ?_
      | refine TL.valYes rfl rfl (Nat.le_of_ble_eq_true rfl) rfl (Nat.le_of_ble_eq_true rfl) rfl (Val.loadB 0 rfl ag5 (rd_allR (l := (cellB 3 258 2 [97, 98])) (i := 2) rfl) (by simp) (by rw [cell_len hm]; decide)) ?_
      | refine TL.valYes rfl rfl (Nat.le_of_ble_eq_true rfl) rfl (Nat.le_of_ble_eq_true rfl) rfl (Val.loadB 0 rfl ag5 (rd_allR (l := (cellB 3 258 2 [97, 98])) (i := 3) rfl) (by simp) (by rw [cell_len hm]; decide)) ?_
      | refine TL.valYes rfl rfl (Nat.le_of_ble_eq_true rfl) rfl (Nat.le_of_ble_eq_true rfl) rfl (Val.loadB 0 rfl ag5 (rd_allR (l := (cellB 3 258 2 [97, 98])) (i := 4) rfl) (by simp) (by rw [cell_len hm]; decide)) ?_
      | refine TL.valYes rfl rfl (Nat.le_of_ble_eq_true rfl) rfl (Nat.le_of_ble_eq_true rfl) rfl (Val.loadB 0 rfl ag5 (rd_allR (l := (cellB 3 258 2 [97, 98])) (i := 5) rfl) (by simp) (by rw [cell_len hm]; decide)) ?_
      | refine TL.valYes rfl rfl (Nat.le_of_ble_eq_true rfl) rfl (Nat.le_of_ble_eq_true rfl) rfl (Val.loadB 0 rfl ag5 (rd_allR (l := (cellB 3 258 2 [97, 98])) (i := 6) rfl) (by simp) (by rw [cell_len hm]; decide)) ?_
      | refine TL.valYes rfl rfl (Nat.le_of_ble_eq_true rfl) rfl (Nat.le_of_ble_eq_true rfl) rfl (Val.loadB 0 rfl ag5 (rd_allR (l := (cellB 3 258 2 [97, 98])) (i := 7) rfl) (by simp) (by rw [cell_len hm]; decide)) ?_
      | refine TL.valYes rfl rfl (Nat.le_of_ble_eq_true rfl) rfl (Nat.le_of_ble_eq_true rfl) rfl (Val.loadB 0 rfl ag5 (rd_allR (l := (cellB 3 258 2 [97, 98])) (i := 8) rfl) (by simp) (by rw [cell_len hm]; decide)) ?_
      | refine TL.valYes rfl rfl (Nat.le_of_ble_eq_true rfl) rfl (Nat.le_of_ble_eq_true rfl) rfl (Val.loadB 0 rfl ag5 (rd_allR (l := (cellB 3 258 2 [97, 98])) (i := 9) rfl) (by simp) (by rw [cell_len hm]; decide)) ?_
      | refine TL.valYes rfl rfl (Nat.le_of_ble_eq_true rfl) rfl (Nat.le_of_ble_eq_true rfl) rfl (Val.loadB 0 rfl ag5 (rd_allR (l := (cellB 3 258 2 [97, 98])) (i := 10) rfl) (by simp) (by rw [cell_len hm]; decide)) ?_
      | refine TL.valYes rfl rfl (Nat.le_of_ble_eq_true rfl) rfl (Nat.le_of_ble_eq_true rfl) rfl (Val.loadB 0 rfl ag5 (rd_allR (l := (cellB 3 258 2 [97, 98])) (i := 11) rfl) (by simp) (by rw [cell_len hm]; decide)) ?_
    refine TL.valYes rfl rfl (Nat.le_of_ble_eq_true rfl) rfl (Nat.le_of_ble_eq_true rfl) rfl (Val.same (v' := .bool true) (Val.eqlI rfl rfl) (by rw [e0]; rfl)) ?_
    first
      | refine TL.val rfl rfl (Nat.le_of_ble_eq_true rfl) (Val.pickAnd rfl rfl rfl) ?_
      | refine TL.val rfl rfl (Nat.le_of_ble_eq_true rfl) (Val.pickOr rfl rfl rfl) ?_
      | refine TL.val rfl rfl (Nat.le_of_ble_eq_true rfl) (Val.pick rfl rfl rfl) ?_
    refine TL.val rfl rfl (Nat.le_of_ble_eq_true rfl) (Val.move rfl) ?_
    refine TL.valYes rfl rfl (Nat.le_of_ble_eq_true rfl) rfl (Nat.le_of_ble_eq_true rfl) rfl (Val.move rfl) ?_
    refine TL.valYes rfl rfl (Nat.le_of_ble_eq_true rfl) rfl (Nat.le_of_ble_eq_true rfl) rfl (Val.indexAddr (i := 4) rfl rfl sl23 sz5 rfl (by first | decide | omega) rfl) ?_
    first
      | refine TL.valYes rfl rfl (Nat.le_of_ble_eq_true rfl) rfl (Nat.le_of_ble_eq_true rfl) rfl (Val.loadB 4 rfl ag5 (rd_allR (l := (cellB 3 258 2 [97, 98])) (i := 0) rfl) (by simp) (by rw [cell_len hm]; decide)) ?_
      | refine TL.valYes rfl rfl (Nat.le_of_ble_eq_true rfl) rfl (Nat.le_of_ble_eq_true rfl) rfl (Val.loadB 4 rfl ag5 (rd_allR (l := (cellB 3 258 2 [97, 98])) (i := 1) rfl) (by simp) (by rw [cell_len hm]; decide)) ?_
      | refine TL.valYes rfl rfl (Nat.le_of_ble_eq_true rfl) rfl (Nat.le_of_ble_eq_true rfl) rfl (Val.loadB 4 rfl ag5 (rd_allR (l := (cellB 3 258 2 [97, 98])) (i := 2) rfl) (by simp) (by rw [cell_len hm]; decide)) ?_
      | refine TL.valYes rfl rfl (Nat.le_of_ble_eq_true rfl) rfl (Nat.le_of_ble_eq_true rfl) rfl (Val.loadB 4 rfl ag5 (rd_allR (l := (cellB 3 258 2 [97, 98])) (i := 3) rfl) (by simp) (by rw [cell_len hm]; decide)) ?_
      | refine TL.valYes rfl rfl (Nat.le_of_ble_eq_true rfl) rfl (Nat.le_of_ble_eq_true rfl) rfl (Val.loadB 4 rfl ag5 (rd_allR (l := (cellB 3 258 2 [97, 98])) (i := 4) rfl) (by simp) (by rw [cell_len hm]; decide)) ?_
      | refine TL.valYes rfl rfl (Nat.le_of_ble_eq_true rfl) rfl (Nat.le_of_ble_eq_true rfl) rfl (Val.loadB 4 rfl ag5 (rd_allR (l := (cellB 3 258 2 [97, 98])) (i := 5) rfl) (by simp) (by rw [cell_len hm]; decide)) ?_
      | refine TL.valYes rfl rfl (Nat.le_of_ble_eq_true rfl) rfl (Nat.le_of_ble_eq_true rfl) rfl (Val.loadB 4 rfl ag5 (rd_allR (l := (cellB 3 258 2 [97, 98])) (i := 6) rfl) (by simp) (by rw [cell_len hm]; decide)) ?_
      | refine TL.valYes rfl rfl (Nat.le_of_ble_eq_true rfl) rfl (Nat.le_of_ble_eq_true rfl) rfl (Val.loadB 4 rfl ag5 (rd_allR (l := (cellB 3 258 2 [97, 98])) (i := 7) rfl) (by simp) (by rw [cell_len hm]; decide)) ?_
      | refine TL.valYes rfl rfl (Nat.le_of_ble_eq_true rfl) rfl (Nat.le_of_ble_eq_true rfl) rfl (Val.loadB 4 rfl ag5 (rd_allR (l := (cellB 3 258 2 [97, 98])) (i := 8) rfl) (by simp) (by rw [cell_len hm]; decide)) ?_
      | refine TL.valYes rfl rfl (Nat.le_of_ble_eq_true rfl) rfl (Nat.le_of_ble_eq_true rfl) rfl (Val.loadB 4 rfl ag5 (rd_allR (l := (cellB 3 258 2 [97, 98])) (i := 9) rfl) (by simp) (by rw [cell_len hm]; decide)) ?_
      | refine TL.valYes rfl rfl (Nat.le_of_ble_eq_true rfl) rfl (Nat.le_of_ble_eq_true rfl) rfl (Val.loadB 4 rfl ag5 (rd_allR (l := (cellB 3 258 2 [97, 98])) (i := 10) rfl) (by simp) (by rw [cell_len hm]; decide)) ?_
      | refine TL.valYes rfl rfl (Nat.le_of_ble_eq_true rfl) rfl (Nat.le_of_ble_eq_true rfl) rfl (Val.loadB 4 rfl ag5 (rd_allR (l := (cellB 3 258 2 [97, 98])) (i := 11) rfl) (by simp) (by rw [cell_len hm]; decide)) ?_
    refine TL.valYes rfl rfl (Nat.le_of_ble_eq_true rfl) rfl (Nat.le_of_ble_eq_true rfl) rfl (Val.same (v' := .bool true) (Val.eqlI rfl rfl) (by rw [e4]; rfl)) ?_
    first
      | refine TL.val rfl rfl (Nat.le_of_ble_eq_true rfl) (Val.pickAnd rfl rfl rfl) ?_
      | refine TL.val rfl rfl (Nat.le_of_ble_eq_true rfl) (Val.pickOr rfl rfl rfl) ?_
      | refine TL.val rfl rfl (Nat.le_of_ble_eq_true rfl) (Val.pick rfl rfl rfl) ?_
    refine TL.val rfl rfl (Nat.le_of_ble_eq_true rfl) (Val.move rfl) ?_
    refine TL.valYes rfl rfl (Nat.le_of_ble_eq_true rfl) rfl (Nat.le_of_ble_eq_true rfl) rfl (Val.move rfl) ?_
    refine TL.valYes rfl rfl (Nat.le_of_ble_eq_true rfl) rfl (Nat.le_of_ble_eq_true rfl) rfl (Val.indexAddr (i := 5) rfl rfl sl23 sz5 rfl (by first | decide | omega) rfl) ?_
    first
      | refine TL.valYes rfl rfl (Nat.le_of_ble_eq_true rfl) rfl (Nat.le_of_ble_eq_true rfl) rfl (Val.loadB 5 rfl ag5 (rd_allR (l := (cellB 3 258 2 [97, 98])) (i := 0) rfl) (by simp) (by rw [cell_len hm]; decide)) ?_
      | refine TL.valYes rfl rfl (Nat.le_of_ble_eq_true rfl) rfl (Nat.le_of_ble_eq_true rfl) rfl (Val.loadB 5 rfl ag5 (rd_allR (l := (cellB 3 258 2 [97, 98])) (i := 1) rfl) (by simp) (by rw [cell_len hm]; decide)) ?_
      | refine TL.valYes rfl rfl (Nat.le_of_ble_eq_true rfl) rfl (Nat.le_of_ble_eq_true rfl) rfl (Val.loadB 5 rfl ag5 (rd_allR (l := (cellB 3 258 2 [97, 98])) (i := 2) rfl) (by simp) (by rw [cell_len hm]; decide)) ?_
      | refine TL.valYes rfl rfl (Nat.le_of_ble_eq_true rfl) rfl (Nat.le_of_ble_eq_true rfl) rfl (Val.loadB 5 rfl ag5 (rd_allR (l := (cellB 3 258 2 [97, 98])) (i := 3) rfl) (by simp) (by rw [cell_len hm]; decide)) ?_
      | refine TL.valYes rfl rfl (Nat.le_of_ble_eq_true rfl) rfl (Nat.le_of_ble_eq_true rfl) rfl (Val.loadB 5 rfl ag5 (rd_allR (l := (cellB 3 258 2 [97, 98])) (i := 4) rfl) (by simp) (by rw [cell_len hm]; decide)) ?_
      | refine TL.valYes rfl rfl (Nat.le_of_ble_eq_true rfl) rfl (Nat.le_of_ble_eq_true rfl) rfl (Val.loadB 5 rfl ag5 (rd_allR (l := (cellB 3 258 2 [97, 98])) (i := 5) rfl) (by simp) (by rw [cell_len hm]; decide)) ?_
      | refine TL.valYes rfl rfl (Nat.le_of_ble_eq_true rfl) rfl (Nat.le_of_ble_eq_true rfl) rfl (Val.loadB 5 rfl ag5 (rd_allR (l := (cellB 3 258 2 [97, 98])) (i := 6) rfl) (by simp) (by rw [cell_len hm]; decide)) ?_
      | refine TL.valYes rfl rfl (Nat.le_of_ble_eq_true rfl) rfl (Nat.le_of_ble_eq_true rfl) rfl (Val.loadB 5 rfl ag5 (rd_allR (l := (cellB 3 258 2 [97, 98])) (i := 7) rfl) (by simp) (by rw [cell_len hm]; decide)) ?_
      | refine TL.valYes rfl rfl (Nat.le_of_ble_eq_true rfl) rfl (Nat.le_of_ble_eq_true rfl) rfl (Val.loadB 5 rfl ag5 (rd_allR (l := (cellB 3 258 2 [97, 98])) (i := 8) rfl) (by simp) (by rw [cell_len hm]; decide)) ?_
      | refine TL.valYes rfl rfl (Nat.le_of_ble_eq_true rfl) rfl (Nat.le_of_ble_eq_true rfl) rfl (Val.loadB 5 rfl ag5 (rd_allR (l := (cellB 3 258 2 [97, 98])) (i := 9) rfl) (by simp) (by rw [cell_len hm]; decide)) ?_
      | refine TL.valYes rfl rfl (Nat.le_of_ble_eq_true rfl) rfl (Nat.le_of_ble_eq_true rfl) rfl (Val.loadB 5 rfl ag5 (rd_allR (l := (cellB 3 258 2 [97, 98])) (i := 10) rfl) (by simp) (by rw [cell_len hm]; decide)) ?_
      | refine TL.valYes rfl rfl (Nat.le_of_ble_eq_true rfl) rfl (Nat.le_of_ble_eq_true rfl) rfl (Val.loadB 5 rfl ag5 (rd_allR (l := (cellB 3 258 2 [97, 98])) (i := 11) rfl) (by simp) (by rw [cell_len hm]; decide)) ?_
    refine TL.valYes rfl rfl (Nat.le_of_ble_eq_true rfl) rfl (Nat.le_of_ble_eq_true rfl) rfl (Val.same (v' := .bool true) (Val.eqlI rfl rfl) (by rw [e5]; rfl)) ?_
    first
      | refine TL.val rfl rfl (Nat.le_of_ble_eq_true rfl) (Val.pickAnd rfl rfl rfl) ?_
      | refine TL.val rfl rfl (Nat.le_of_ble_eq_true rfl) (Val.pickOr rfl rfl rfl) ?_
      | refine TL.val rfl rfl (Nat.le_of_ble_eq_true rfl) (Val.pick rfl rfl rfl) ?_
    refine TL.val rfl rfl (Nat.le_of_ble_eq_true rfl) (Val.move rfl) ?_
    refine TL.valYes rfl rfl (Nat.le_of_ble_eq_true rfl) rfl (Nat.le_of_ble_eq_true rfl) rfl (Val.move rfl) ?_
    refine TL.valYes rfl rfl (Nat.le_of_ble_eq_true rfl) rfl (Nat.le_of_ble_eq_true rfl) rfl (Val.indexAddr (i := 6) rfl rfl sl23 sz5 rfl (by first | decide | omega) rfl) ?_
    first
      | refine TL.valYes rfl rfl (Nat.le_of_ble_eq_true rfl) rfl (Nat.le_of_ble_eq_true rfl) rfl (Val.loadB 6 rfl ag5 (rd_allR (l := (cellB 3 258 2 [97, 98])) (i := 0) rfl) (by simp) (by rw [cell_len hm]; decide)) ?_
      | refine TL.valYes rfl rfl (Nat.le_of_ble_eq_true rfl) rfl (Nat.le_of_ble_eq_true rfl) rfl (Val.loadB 6 rfl ag5 (rd_allR (l := (cellB 3 258 2 [97, 98])) (i := 1) rfl) (by simp) (by rw [cell_len hm]; decide)) ?_
      | refine TL.valYes rfl rfl (Nat.le_of_ble_eq_true rfl) rfl (Nat.le_of_ble_eq_true rfl) rfl (Val.loadB 6 rfl ag5 (rd_allR (l := (cellB 3 258 2 [97, 98])) (i := 2) rfl) (by simp) (by rw [cell_len hm]; decide)) ?_
      | refine TL.valYes rfl rfl (Nat.le_of_ble_eq_true rfl) rfl (Nat.le_of_ble_eq_true rfl) rfl (Val.loadB 6 rfl ag5 (rd_allR (l := (cellB 3 258 2 [97, 98])) (i := 3) rfl) (by simp) (by rw [cell_len hm]; decide)) ?_
      | refine TL.valYes rfl rfl (Nat.le_of_ble_eq_true rfl) rfl (Nat.le_of_ble_eq_true rfl) rfl (Val.loadB 6 rfl ag5 (rd_allR (l := (cellB 3 258 2 [97, 98])) (i := 4) rfl) (by simp) (by rw [cell_len hm]; decide)) ?_
      | refine TL.valYes rfl rfl (Nat.le_of_ble_eq_true rfl) rfl (Nat.le_of_ble_eq_true rfl) rfl (Val.loadB 6 rfl ag5 (rd_allR (l := (cellB 3 258 2 [97, 98])) (i := 5) rfl) (by simp) (by rw [cell_len hm]; decide)) ?_
      | refine TL.valYes rfl rfl (Nat.le_of_ble_eq_true rfl) rfl (Nat.le_of_ble_eq_true rfl) rfl (Val.loadB 6 rfl ag5 (rd_allR (l := (cellB 3 258 2 [97, 98])) (i := 6) rfl) (by simp) (by rw [cell_len hm]; decide)) ?_
      | refine TL.valYes rfl rfl (Nat.le_of_ble_eq_true rfl) rfl (Nat.le_of_ble_eq_true rfl) rfl (Val.loadB 6 rfl ag5 (rd_allR (l := (cellB 3 258 2 [97, 98])) (i := 7) rfl) (by simp) (by rw [cell_len hm]; decide)) ?_
      | refine TL.valYes rfl rfl (Nat.le_of_ble_eq_true rfl) rfl (Nat.le_of_ble_eq_true rfl) rfl (Val.loadB 6 rfl ag5 (rd_allR (l := (cellB 3 258 2 [97, 98])) (i := 8) rfl) (by simp) (by rw [cell_len hm]; decide)) ?_
      | refine TL.valYes rfl rfl (Nat.le_of_ble_eq_true rfl) rfl (Nat.le_of_ble_eq_true rfl) rfl (Val.loadB 6 rfl ag5 (rd_allR (l := (cellB 3 258 2 [97, 98])) (i := 9) rfl) (by simp) (by rw [cell_len hm]; decide)) ?_
      | refine TL.valYes rfl rfl (Nat.le_of_ble_eq_true rfl) rfl (Nat.le_of_ble_eq_true rfl) rfl (Val.loadB 6 rfl ag5 (rd_allR (l := (cellB 3 258 2 [97, 98])) (i := 10) rfl) (by simp) (by rw [cell_len hm]; decide)) ?_
      | refine TL.valYes rfl rfl (Nat.le_of_ble_eq_true rfl) rfl (Nat.le_of_ble_eq_true rfl) rfl (Val.loadB 6 rfl ag5 (rd_allR (l := (cellB 3 258 2 [97, 98])) (i := 11) rfl) (by simp) (by rw [cell_len hm]; decide)) ?_
    refine TL.valYes rfl rfl (Nat.le_of_ble_eq_true rfl) rfl (Nat.le_of_ble_eq_true rfl) rfl (Val.same (v' := .bool true) (Val.eqlI rfl rfl) (by rw [e6]; rfl)) ?_
    first
      | refine TL.val rfl rfl (Nat.le_of_ble_eq_true rfl) (Val.pickAnd rfl rfl rfl) ?_
      | refine TL.val rfl rfl (Nat.le_of_ble_eq_true rfl) (Val.pickOr rfl rfl rfl) ?_
      | refine TL.val rfl rfl (Nat.le_of_ble_eq_true rfl) (Val.pick rfl rfl rfl) ?_
    refine TL.val rfl rfl (Nat.le_of_ble_eq_true rfl) (Val.move rfl) ?_
    refine TL.valYes rfl rfl (Nat.le_of_ble_eq_true rfl) rfl (Nat.le_of_ble_eq_true rfl) rfl (Val.move rfl) ?_
    refine TL.valYes rfl rfl (Nat.le_of_ble_eq_true rfl) rfl (Nat.le_of_ble_eq_true rfl) rfl (Val.indexAddr (i := 7) rfl rfl sl23 sz5 rfl (by first | decide | omega) rfl) ?_
    first
      | refine TL.valYes rfl rfl (Nat.le_of_ble_eq_true rfl) rfl (Nat.le_of_ble_eq_true rfl) rfl (Val.loadB 7 rfl ag5 (rd_allR (l := (cellB 3 258 2 [97, 98])) (i := 0) rfl) (by simp) (by rw [cell_len hm]; decide)) ?_
      | refine TL.valYes rfl rfl (Nat.le_of_ble_eq_true rfl) rfl (Nat.le_of_ble_eq_true rfl) rfl (Val.loadB 7 rfl ag5 (rd_allR (l := (cellB 3 258 2 [97, 98])) (i := 1) rfl) (by simp) (by rw [cell_len hm]; decide)) ?_
      | refine TL.valYes rfl rfl (Nat.le_of_ble_eq_true rfl) rfl (Nat.le_of_ble_eq_true rfl) rfl (Val.loadB 7 rfl ag5 (rd_allR (l := (cellB 3 258 2 [97, 98])) (i := 2) rfl) (by simp) (by rw [cell_len hm]; decide)) ?_
      | refine TL.valYes rfl rfl (Nat.le_of_ble_eq_true rfl) rfl (Nat.le_of_ble_eq_true rfl) rfl (Val.loadB 7 rfl ag5 (rd_allR (l := (cellB 3 258 2 [97, 98])) (i := 3) rfl) (by simp) (by rw [cell_len hm]; decide)) ?_
      | refine TL.valYes rfl rfl (Nat.le_of_ble_eq_true rfl) rfl (Nat.le_of_ble_eq_true rfl) rfl (Val.loadB 7 rfl ag5 (rd_allR (l := (cellB 3 258 2 [97, 98])) (i := 4) rfl) (by simp) (by rw [cell_len hm]; decide)) ?_
      | refine TL.valYes rfl rfl (Nat.le_of_ble_eq_true rfl) rfl (Nat.le_of_ble_eq_true rfl) rfl (Val.loadB 7 rfl ag5 (rd_allR (l := (cellB 3 258 2 [97, 98])) (i := 5) rfl) (by simp) (by rw [cell_len hm]; decide)) ?_
      | refine TL.valYes rfl rfl (Nat.le_of_ble_eq_true rfl) rfl (Nat.le_of_ble_eq_true rfl) rfl (Val.loadB 7 rfl ag5 (rd_allR (l := (cellB 3 258 2 [97, 98])) (i := 6) rfl) (by simp) (by rw [cell_len hm]; decide)) ?_
      | refine TL.valYes rfl rfl (Nat.le_of_ble_eq_true rfl) rfl (Nat.le_of_ble_eq_true rfl) rfl (Val.loadB 7 rfl ag5 (rd_allR (l := (cellB 3 258 2 [97, 98])) (i := 7) rfl) (by simp) (by rw [cell_len hm]; decide)) ?_
      | refine TL.valYes rfl rfl (Nat.le_of_ble_eq_true rfl) rfl (Nat.le_of_ble_eq_true rfl) rfl (Val.loadB 7 rfl ag5 (rd_allR (l := (cellB 3 258 2 [97, 98])) (i := 8) rfl) (by simp) (by rw [cell_len hm]; decide)) ?_
      | refine TL.valYes rfl rfl (Nat.le_of_ble_eq_true rfl) rfl (Nat.le_of_ble_eq_true rfl) rfl (Val.loadB 7 rfl ag5 (rd_allR (l := (cellB 3 258 2 [97, 98])) (i := 9) rfl) (by simp) (by rw [cell_len hm]; decide)) ?_
      | refine TL.valYes rfl rfl (Nat.le_of_ble_eq_true rfl) rfl (Nat.le_of_ble_eq_true rfl) rfl (Val.loadB 7 rfl ag5 (rd_allR (l := (cellB 3 258 2 [97, 98])) (i := 10) rfl) (by simp) (by rw [cell_len hm]; decide)) ?_
      | refine TL.valYes rfl rfl (Nat.le_of_ble_eq_true rfl) rfl (Nat.le_of_ble_eq_true rfl) rfl (Val.loadB 7 rfl ag5 (rd_allR (l := (cellB 3 258 2 [97, 98])) (i := 11) rfl) (by simp) (by rw [cell_len hm]; decide)) ?_
    refine TL.valYes rfl rfl (Nat.le_of_ble_eq_true rfl) rfl (Nat.le_of_ble_eq_true rfl) rfl (Val.same (v' := .bool true) (Val.eqlI rfl rfl) (by rw [e7]; rfl)) ?_
    first
      | refine TL.val rfl rfl (Nat.le_of_ble_eq_true rfl) (Val.pickAnd rfl rfl rfl) ?_
      | refine TL.val rfl rfl (Nat.le_of_ble_eq_true rfl) (Val.pickOr rfl rfl rfl) ?_
      | refine TL.val rfl rfl (Nat.le_of_ble_eq_true rfl) (Val.pick rfl rfl rfl) ?_
    refine TL.val rfl rfl (Nat.le_of_ble_eq_true rfl) (Val.move rfl) ?_
    refine TL.valYes rfl rfl (Nat.le_of_ble_eq_true rfl) rfl (Nat.le_of_ble_eq_true rfl) rfl (Val.move rfl) ?_
    refine TL.valYes rfl rfl (Nat.le_of_ble_eq_true rfl) rfl (Nat.le_of_ble_eq_true rfl) rfl (Val.indexAddr (i := 63) rfl rfl sl23 sz5 rfl (by first | decide | omega) rfl) ?_
    first
      | refine TL.valYes rfl rfl (Nat.le_of_ble_eq_true rfl) rfl (Nat.le_of_ble_eq_true rfl) rfl (Val.loadB 63 rfl ag5 (rd_allR (l := (cellB 3 258 2 [97, 98])) (i := 0) rfl) (by simp) (by rw [cell_len hm]; decide)) ?_
      | refine TL.valYes rfl rfl (Nat.le_of_ble_eq_true rfl) rfl (Nat.le_of_ble_eq_true rfl) rfl (Val.loadB 63 rfl ag5 (rd_allR (l := (cellB 3 258 2 [97, 98])) (i := 1) rfl) (by simp) (by rw [cell_len hm]; decide)) ?_
      | refine TL.valYes rfl rfl (Nat.le_of_ble_eq_true rfl) rfl (Nat.le_of_ble_eq_true rfl) rfl (Val.loadB 63 rfl ag5 (rd_allR (l := (cellB 3 258 2 [97, 98])) (i := 2) rfl) (by simp) (by rw [cell_len hm]; decide)) ?_
      | refine TL.valYes rfl rfl (Nat.le_of_ble_eq_true rfl) rfl (Nat.le_of_ble_eq_true rfl) rfl (Val.loadB 63 rfl ag5 (rd_allR (l := (cellB 3 258 2 [97, 98])) (i := 3) rfl) (by simp) (by rw [cell_len hm]; decide)) ?_
      | refine TL.valYes rfl rfl (Nat.le_of_ble_eq_true rfl) rfl (Nat.le_of_ble_eq_true rfl) rfl (Val.loadB 63 rfl ag5 (rd_allR (l := (cellB 3 258 2 [97, 98])) (i := 4) rfl) (by simp) (by rw [cell_len hm]; decide)) ?_
      | refine TL.valYes rfl rfl (Nat.le_of_ble_eq_true rfl) rfl (Nat.le_of_ble_eq_true rfl) rfl (Val.loadB 63 rfl ag5 (rd_allR (l := (cellB 3 258 2 [97, 98])) (i := 5) rfl) (by simp) (by rw [cell_len hm]; decide)) ?_
      | refine TL.valYes rfl rfl (Nat.le_of_ble_eq_true rfl) rfl (Nat.le_of_ble_eq_true rfl) rfl (Val.loadB 63 rfl ag5 (rd_allR (l := (cellB 3 258 2 [97, 98])) (i := 6) rfl) (by simp) (by rw [cell_len hm]; decide)) ?_
      | refine TL.valYes rfl rfl (Nat.le_of_ble_eq_true rfl) rfl (Nat.le_of_ble_eq_true rfl) rfl (Val.loadB 63 rfl ag5 (rd_allR (l := (cellB 3 258 2 [97, 98])) (i := 7) rfl) (by simp) (by rw [cell_len hm]; decide)) ?_
      | refine TL.valYes rfl rfl (Nat.le_of_ble_eq_true rfl) rfl (Nat.le_of_ble_eq_true rfl) rfl (Val.loadB 63 rfl ag5 (rd_allR (l := (cellB 3 258 2 [97, 98])) (i := 8) rfl) (by simp) (by rw [cell_len hm]; decide)) ?_
      | refine TL.valYes rfl rfl (Nat.le_of_ble_eq_true rfl) rfl (Nat.le_of_ble_eq_true rfl) rfl (Val.loadB 63 rfl ag5 (rd_allR (l := (cellB 3 258 2 [97, 98])) (i := 9) rfl) (by simp) (by rw [cell_len hm]; decide)) ?_
      | refine TL.valYes rfl rfl (Nat.le_of_ble_eq_true rfl) rfl (Nat.le_of_ble_eq_true rfl) rfl (Val.loadB 63 rfl ag5 (rd_allR (l := (cellB 3 258 2 [97, 98])) (i := 10) rfl) (by simp) (by rw [cell_len hm]; decide)) ?_
      | refine TL.valYes rfl rfl (Nat.le_of_ble_eq_true rfl) rfl (Nat.le_of_ble_eq_true rfl) rfl (Val.loadB 63 rfl ag5 (rd_allR (l := (cellB 3 258 2 [97, 98])) (i := 11) rfl) (by simp) (by rw [cell_len hm]; decide)) ?_
    refine TL.valYes rfl rfl (Nat.le_of_ble_eq_true rfl) rfl (Nat.le_of_ble_eq_true rfl) rfl (Val.same (v' := .bool true) (Val.eqlI rfl rfl) (by rw [e63]; rfl)) ?_
    first
      | refine TL.val rfl rfl (Nat.le_of_ble_eq_true rfl) (Val.pickAnd rfl rfl rfl) ?_
      | refine TL.val rfl rfl (Nat.le_of_ble_eq_true rfl) (Val.pickOr rfl rfl rfl) ?_
      | refine TL.val rfl rfl (Nat.le_of_ble_eq_true rfl) (Val.pick rfl rfl rfl) ?_
    refine TL.val rfl rfl (Nat.le_of_ble_eq_true rfl) (Val.move rfl) ?_
    refine TL.valYes rfl rfl (Nat.le_of_ble_eq_true rfl) rfl (Nat.le_of_ble_eq_true rfl) rfl (Val.move rfl) ?_
    first
      | refine TL.val rfl rfl (Nat.le_of_ble_eq_true rfl) (Val.pickAnd rfl rfl rfl) ?_
      | refine TL.val rfl rfl (Nat.le_of_ble_eq_true rfl) (Val.pickOr rfl rfl rfl) ?_
      | refine TL.val rfl rfl (Nat.le_of_ble_eq_true rfl) (Val.pick rfl rfl rfl) ?_
    refine TL.val rfl rfl (Nat.le_of_ble_eq_true rfl) (Val.move rfl) ?_
    refine TL.valYes rfl rfl (Nat.le_of_ble_eq_true rfl) rfl (Nat.le_of_ble_eq_true rfl) rfl (Val.move rfl) ?_
    refine TL.valYes rfl rfl (Nat.le_of_ble_eq_true rfl) rfl (Nat.le_of_ble_eq_true rfl) rfl (Val.same (v' := .bool true) (Val.eqlI rfl rfl) (by simp)) ?_
    first
      | refine TL.val rfl rfl (Nat.le_of_ble_eq_true rfl) (Val.pickAnd rfl rfl rfl) ?_
      | refine TL.val rfl rfl (Nat.le_of_ble_eq_true rfl) (Val.pickOr rfl rfl rfl) ?_
      | refine TL.val rfl rfl (Nat.le_of_ble_eq_true rfl) (Val.pick rfl rfl rfl) ?_
    refine TL.val rfl rfl (Nat.le_of_ble_eq_true rfl) (Val.move rfl) ?_
    refine TL.valYes rfl rfl (Nat.le_of_ble_eq_true rfl) rfl (Nat.le_of_ble_eq_true rfl) rfl (Val.fieldAddr rfl fl31_1 sz3 rfl) ?_
    first
      | refine TL.valYes rfl rfl (Nat.le_of_ble_eq_true rfl) rfl (Nat.le_of_ble_eq_true rfl) rfl (Val.load 0 rfl ag3 rfl rfl) ?_
      | refine TL.valYes rfl rfl (Nat.le_of_ble_eq_true rfl) rfl (Nat.le_of_ble_eq_true rfl) rfl (Val.load 1 rfl ag3 rfl rfl) ?_
      | refine TL.valYes rfl rfl (Nat.le_of_ble_eq_true rfl) rfl (Nat.le_of_ble_eq_true rfl) rfl (Val.load 2 rfl ag3 rfl rfl) ?_
      | refine TL.valYes rfl rfl (Nat.le_of_ble_eq_true rfl) rfl (Nat.le_of_ble_eq_true rfl) rfl (Val.load 3 rfl ag3 rfl rfl) ?_
      | refine TL.valYes rfl rfl (Nat.le_of_ble_eq_true rfl) rfl (Nat.le_of_ble_eq_true rfl) rfl (Val.load 4 rfl ag3 rfl rfl) ?_
      | refine TL.valYes rfl rfl (Nat.le_of_ble_eq_true rfl) rfl (Nat.le_of_ble_eq_true rfl) rfl (Val.load 5 rfl ag3 rfl rfl) ?_
      | refine TL.valYes rfl rfl (Nat.le_of_ble_eq_true rfl) rfl (Nat.le_of_ble_eq_true rfl) rfl (Val.load 6 rfl ag3 rfl rfl) ?_
      | refine TL.valYes rfl rfl (Nat.le_of_ble_eq_true rfl) rfl (Nat.le_of_ble_eq_true rfl) rfl (Val.load 7 rfl ag3 rfl rfl) ?_
      | refine TL.valYes rfl rfl (Nat.le_of_ble_eq_true rfl) rfl (Nat.le_of_ble_eq_true rfl) rfl (Val.load 8 rfl ag3 rfl rfl) ?_
      | refine TL.valYes rfl rfl (Nat.le_of_ble_eq_true rfl) rfl (Nat.le_of_ble_eq_true rfl) rfl (Val.load 9 rfl ag3 rfl rfl) ?_
      | refine TL.valYes rfl rfl (Nat.le_of_ble_eq_true rfl) rfl (Nat.le_of_ble_eq_true rfl) rfl (Val.load 10 rfl ag3 rfl rfl) ?_
      | refine TL.valYes rfl rfl (Nat.le_of_ble_eq_true rfl) rfl (Nat.le_of_ble_eq_true rfl) rfl (Val.load 11 rfl ag3 rfl rfl) ?_
    refine TL.valYes rfl rfl (Nat.le_of_ble_eq_true rfl) rfl (Nat.le_of_ble_eq_true rfl) rfl (Val.same (v' := .bool true) (Val.eqlI rfl rfl) (rfl)) ?_
    first
      | refine TL.val rfl rfl (Nat.le_of_ble_eq_true rfl) (Val.pickAnd rfl rfl rfl) ?_
      | refine TL.val rfl rfl (Nat.le_of_ble_eq_true rfl) (Val.pickOr rfl rfl rfl) ?_
      | refine TL.val rfl rfl (Nat.le_of_ble_eq_true rfl) (Val.pick rfl rfl rfl) ?_
    refine TL.val rfl rfl (Nat.le_of_ble_eq_true rfl) (Val.move rfl) ?_
    refine TL.valYes rfl rfl (Nat.le_of_ble_eq_true rfl) rfl (Nat.le_of_ble_eq_true rfl) rfl (Val.fieldAddr rfl fl31_3 sz23 rfl) ?_
    first
      | refine TL.valYes rfl rfl (Nat.le_of_ble_eq_true rfl) rfl (Nat.le_of_ble_eq_true rfl) rfl (Val.load 0 rfl ag23 rfl rfl) ?_
      | refine TL.valYes rfl rfl (Nat.le_of_ble_eq_true rfl) rfl (Nat.le_of_ble_eq_true rfl) rfl (Val.load 1 rfl ag23 rfl rfl) ?_
      | refine TL.valYes rfl rfl (Nat.le_of_ble_eq_true rfl) rfl (Nat.le_of_ble_eq_true rfl) rfl (Val.load 2 rfl ag23 rfl rfl) ?_
      | refine TL.valYes rfl rfl (Nat.le_of_ble_eq_true rfl) rfl (Nat.le_of_ble_eq_true rfl) rfl (Val.load 3 rfl ag23 rfl rfl) ?_
      | refine TL.valYes rfl rfl (Nat.le_of_ble_eq_true rfl) rfl (Nat.le_of_ble_eq_true rfl) rfl (Val.load 4 rfl ag23 rfl rfl) ?_
      | refine TL.valYes rfl rfl (Nat.le_of_ble_eq_true rfl) rfl (Nat.le_of_ble_eq_true rfl) rfl (Val.load 5 rfl ag23 rfl rfl) ?_
      | refine TL.valYes rfl rfl (Nat.le_of_ble_eq_true rfl) rfl (Nat.le_of_ble_eq_true rfl) rfl (Val.load 6 rfl ag23 rfl rfl) ?_
      | refine TL.valYes rfl rfl (Nat.le_of_ble_eq_true rfl) rfl (Nat.le_of_ble_eq_true rfl) rfl (Val.load 7 rfl ag23 rfl rfl) ?_
      | refine TL.valYes rfl rfl (Nat.le_of_ble_eq_true rfl) rfl (Nat.le_of_ble_eq_true rfl) rfl (Val.load 8 rfl ag23 rfl rfl) ?_
      | refine TL.valYes rfl rfl (Nat.le_of_ble_eq_true rfl) rfl (Nat.le_of_ble_eq_true rfl) rfl (Val.load 9 rfl ag23 rfl rfl) ?_
      | refine TL.valYes rfl rfl (Nat.le_of_ble_eq_true rfl) rfl (Nat.le_of_ble_eq_true rfl) rfl (Val.load 10 rfl ag23 rfl rfl) ?_
      | refine TL.valYes rfl rfl (Nat.le_of_ble_eq_true rfl) rfl (Nat.le_of_ble_eq_true rfl) rfl (Val.load 11 rfl ag23 rfl rfl) ?_
    refine TL.valYes rfl rfl (Nat.le_of_ble_eq_true rfl) rfl (Nat.le_of_ble_eq_true rfl) rfl (Val.b2s (l := [97, 98]) rfl us23 ui5 un9 rfl (slRd hok3 (fun x h => by repeat (first | exact List.mem_append_right _ h | apply List.mem_cons_of_mem)))) ?_
    refine TL.valYes rfl rfl (Nat.le_of_ble_eq_true rfl) rfl (Nat.le_of_ble_eq_true rfl) rfl (Val.same (v' := .bool true) (Val.eqlS rfl rfl) (by rw [str_beq]; rfl)) ?_
    first
      | refine TL.val rfl rfl (Nat.le_of_ble_eq_true rfl) (Val.pickAnd rfl rfl rfl) ?_
      | refine TL.val rfl rfl (Nat.le_of_ble_eq_true rfl) (Val.pickOr rfl rfl rfl) ?_
      | refine TL.val rfl rfl (Nat.le_of_ble_eq_true rfl) (Val.pick rfl rfl rfl) ?_
    refine TL.val rfl rfl (Nat.le_of_ble_eq_true rfl) (Val.move rfl) ?_
    refine TL.valYes rfl rfl (Nat.le_of_ble_eq_true rfl) rfl (Nat.le_of_ble_eq_true rfl) rfl (Val.move rfl) ?_
    refine TL.valYes rfl rfl (Nat.le_of_ble_eq_true rfl) rfl (Nat.le_of_ble_eq_true rfl) rfl (Val.same (v' := .bool true) (Val.not rfl) (rfl)) ?_
    first
      | refine TL.val rfl rfl (Nat.le_of_ble_eq_true rfl) (Val.pickAnd rfl rfl rfl) ?_
      | refine TL.val rfl rfl (Nat.le_of_ble_eq_true rfl) (Val.pickOr rfl rfl rfl) ?_
      | refine TL.val rfl rfl (Nat.le_of_ble_eq_true rfl) (Val.pick rfl rfl rfl) ?_
    refine TL.val rfl rfl (Nat.le_of_ble_eq_true rfl) (Val.move rfl) ?_
    refine TL.valYes rfl rfl (Nat.le_of_ble_eq_true rfl) rfl (Nat.le_of_ble_eq_true rfl) rfl (Val.move rfl) ?_
    refine TL.valYes rfl rfl (Nat.le_of_ble_eq_true rfl) rfl (Nat.le_of_ble_eq_true rfl) rfl (Val.same (v' := .bool true) (Val.eqlI rfl rfl) (by simp)) ?_
    first
      | refine TL.val rfl rfl (Nat.le_of_ble_eq_true rfl) (Val.pickAnd rfl rfl rfl) ?_
      | refine TL.val rfl rfl (Nat.le_of_ble_eq_true rfl) (Val.pickOr rfl rfl rfl) ?_
      | refine TL.val rfl rfl (Nat.le_of_ble_eq_true rfl) (Val.pick rfl rfl rfl) ?_
    refine TL.val rfl rfl (Nat.le_of_ble_eq_true rfl) (Val.move rfl) ?_
    refine TL.valYes rfl rfl (Nat.le_of_ble_eq_true rfl) rfl (Nat.le_of_ble_eq_true rfl) rfl (Val.move rfl) ?_
    refine TL.valYes rfl rfl (Nat.le_of_ble_eq_true rfl) rfl (Nat.le_of_ble_eq_true rfl) rfl (Val.same (v' := .bool true) (Val.eqlI rfl rfl) (by simp)) ?_
    first
      | refine TL.val rfl rfl (Nat.le_of_ble_eq_true rfl) (Val.pickAnd rfl rfl rfl) ?_
      | refine TL.val rfl rfl (Nat.le_of_ble_eq_true rfl) (Val.pickOr rfl rfl rfl) ?_
      | refine TL.val rfl rfl (Nat.le_of_ble_eq_true rfl) (Val.pick rfl rfl rfl) ?_
    refine TL.val rfl rfl (Nat.le_of_ble_eq_true rfl) (Val.move rfl) ?_
    refine TL.valYes rfl rfl (Nat.le_of_ble_eq_true rfl) rfl (Nat.le_of_ble_eq_true rfl) rfl (Val.move rfl) ?_
    refine TL.valYes rfl rfl (Nat.le_of_ble_eq_true rfl) rfl (Nat.le_of_ble_eq_true rfl) rfl (Val.same (v' := .bool true) (Val.eqlI rfl rfl) (by simp)) ?_
    first
      | refine TL.val rfl rfl (Nat.le_of_ble_eq_true rfl) (Val.pickAnd rfl rfl rfl) ?_
      | refine TL.val rfl rfl (Nat.le_of_ble_eq_true rfl) (Val.pickOr rfl rfl rfl) ?_
      | refine TL.val rfl rfl (Nat.le_of_ble_eq_true rfl) (Val.pick rfl rfl rfl) ?_
    refine TL.val rfl rfl (Nat.le_of_ble_eq_true rfl) (Val.move rfl) ?_
    refine TL.valYes rfl rfl (Nat.le_of_ble_eq_true rfl) rfl (Nat.le_of_ble_eq_true rfl) rfl (Val.move rfl) ?_
    first
      | refine TL.val rfl rfl (Nat.le_of_ble_eq_true rfl) (Val.pickAnd rfl rfl rfl) ?_
      | refine TL.val rfl rfl (Nat.le_of_ble_eq_true rfl) (Val.pickOr rfl rfl rfl) ?_
      | refine TL.val rfl rfl (Nat.le_of_ble_eq_true rfl) (Val.pick rfl rfl rfl) ?_
    refine TL.val rfl rfl (Nat.le_of_ble_eq_true rfl) (Val.move rfl) ?_
    refine TL.valYes rfl rfl (Nat.le_of_ble_eq_true rfl) rfl (Nat.le_of_ble_eq_true rfl) rfl (Val.move rfl) ?_
    refine TL.valYes rfl rfl (Nat.le_of_ble_eq_true rfl) rfl (Nat.le_of_ble_eq_true rfl) rfl (Val.same (v' := .bool true) (Val.eqlI rfl rfl) (by simp)) ?_
    first
      | refine TL.val rfl rfl (Nat.le_of_ble_eq_true rfl) (Val.pickAnd rfl rfl rfl) ?_
      | refine TL.val rfl rfl (Nat.le_of_ble_eq_true rfl) (Val.pickOr rfl rfl rfl) ?_
      | refine TL.val rfl rfl (Nat.le_of_ble_eq_true rfl) (Val.pick rfl rfl rfl) ?_
    refine TL.val rfl rfl (Nat.le_of_ble_eq_true rfl) (Val.move rfl) ?_
    refine TL.doesYes (some 143) rfl rfl rfl (Nat.le_of_ble_eq_true rfl) rfl rfl (Does.callF go17 rfl (Mark_fn _ _)) ?_
    rintro _ _ ⟨rfl, rfl⟩
    refine TL.valYes rfl rfl (Nat.le_of_ble_eq_true rfl) rfl (Nat.le_of_ble_eq_true rfl) rfl (Val.same (v' := .bool true) (Val.eqlI rfl rfl) (rfl)) ?_
    first
      | refine TL.val rfl rfl (Nat.le_of_ble_eq_true rfl) (Val.pickAnd rfl rfl rfl) ?_
      | refine TL.val rfl rfl (Nat.le_of_ble_eq_true rfl) (Val.pickOr rfl rfl rfl) ?_
      | refine TL.val rfl rfl (Nat.le_of_ble_eq_true rfl) (Val.pick rfl rfl rfl) ?_
    refine TL.val rfl rfl (Nat.le_of_ble_eq_true rfl) (Val.move rfl) ?_
    refine TL.doesYes (some 147) rfl rfl rfl (Nat.le_of_ble_eq_true rfl) rfl rfl (Does.buildSlice sl23 sz5 ze5 (by decide) (by decide) rfl rfl rfl) ?_
    rintro _ _ ⟨b15, rfl, rfl⟩
    refine TL.doesYes (some 148) rfl rfl rfl (Nat.le_of_ble_eq_true rfl) rfl rfl (Does.callF go19 rfl (Sum_fn [1, 0] _ _ _ _ (.some (Rd.get (i := 0) rfl rfl)) rfl (by decide))) ?_
    rintro _ _ ⟨rfl, rfl⟩
    refine TL.valYes rfl rfl (Nat.le_of_ble_eq_true rfl) rfl (Nat.le_of_ble_eq_true rfl) rfl (Val.same (v' := .bool true) (Val.eqlI rfl rfl) (rfl)) ?_
    first
      | refine TL.val rfl rfl (Nat.le_of_ble_eq_true rfl) (Val.pickAnd rfl rfl rfl) ?_
      | refine TL.val rfl rfl (Nat.le_of_ble_eq_true rfl) (Val.pickOr rfl rfl rfl) ?_
      | refine TL.val rfl rfl (Nat.le_of_ble_eq_true rfl) (Val.pick rfl rfl rfl) ?_
    refine TL.val rfl rfl (Nat.le_of_ble_eq_true rfl) (Val.move rfl) ?_
    first
      | refine TL.valYes rfl rfl (Nat.le_of_ble_eq_true rfl) rfl (Nat.le_of_ble_eq_true rfl) rfl (Val.loadAgg 0 rfl ag31 sz31 rfl rfl rfl) ?_
      | refine TL.valYes rfl rfl (Nat.le_of_ble_eq_true rfl) rfl (Nat.le_of_ble_eq_true rfl) rfl (Val.loadAgg 1 rfl ag31 sz31 rfl rfl rfl) ?_
      | refine TL.valYes rfl rfl (Nat.le_of_ble_eq_true rfl) rfl (Nat.le_of_ble_eq_true rfl) rfl (Val.loadAgg 2 rfl ag31 sz31 rfl rfl rfl) ?_
      | refine TL.valYes rfl rfl (Nat.le_of_ble_eq_true rfl) rfl (Nat.le_of_ble_eq_true rfl) rfl (Val.loadAgg 3 rfl ag31 sz31 rfl rfl rfl) ?_
      | refine TL.valYes rfl rfl (Nat.le_of_ble_eq_true rfl) rfl (Nat.le_of_ble_eq_true rfl) rfl (Val.loadAgg 4 rfl ag31 sz31 rfl rfl rfl) ?_
      | refine TL.valYes rfl rfl (Nat.le_of_ble_eq_true rfl) rfl (Nat.le_of_ble_eq_true rfl) rfl (Val.loadAgg 5 rfl ag31 sz31 rfl rfl rfl) ?_
      | refine TL.valYes rfl rfl (Nat.le_of_ble_eq_true rfl) rfl (Nat.le_of_ble_eq_true rfl) rfl (Val.loadAgg 6 rfl ag31 sz31 rfl rfl rfl) ?_
      | refine TL.valYes rfl rfl (Nat.le_of_ble_eq_true rfl) rfl (Nat.le_of_ble_eq_true rfl) rfl (Val.loadAgg 7 rfl ag31 sz31 rfl rfl rfl) ?_
      | refine TL.valYes rfl rfl (Nat.le_of_ble_eq_true rfl) rfl (Nat.le_of_ble_eq_true rfl) rfl (Val.loadAgg 8 rfl ag31 sz31 rfl rfl rfl) ?_
      | refine TL.valYes rfl rfl (Nat.le_of_ble_eq_true rfl) rfl (Nat.le_of_ble_eq_true rfl) rfl (Val.loadAgg 9 rfl ag31 sz31 rfl rfl rfl) ?_
      | refine TL.valYes rfl rfl (Nat.le_of_ble_eq_true rfl) rfl (Nat.le_of_ble_eq_true rfl) rfl (Val.loadAgg 10 rfl ag31 sz31 rfl rfl rfl) ?_
      | refine TL.valYes rfl rfl (Nat.le_of_ble_eq_true rfl) rfl (Nat.le_of_ble_eq_true rfl) rfl (Val.loadAgg 11 rfl ag31 sz31 rfl rfl rfl) ?_
    refine TL.doesYes (some 153) rfl rfl rfl (Nat.le_of_ble_eq_true rfl) rfl rfl (Does.callF go14 rfl (May_fn _ _ _ _ _ _ _)) ?_
    rintro _ _ ⟨rfl, rfl⟩
    first
      | refine TL.val rfl rfl (Nat.le_of_ble_eq_true rfl) (Val.pickAnd rfl rfl rfl) ?_
      | refine TL.val rfl rfl (Nat.le_of_ble_eq_true rfl) (Val.pickOr rfl rfl rfl) ?_
      | refine TL.val rfl rfl (Nat.le_of_ble_eq_true rfl) (Val.pick rfl rfl rfl) ?_
    refine TL.val rfl rfl (Nat.le_of_ble_eq_true rfl) (Val.assign rfl) ?_
    refine TL.nil ?_
    refine AtX.then ?_
    refine TC.env (E' := [(0, _)]) (Sub.cons rfl (Sub.nil _)) ?_
    refine TC.ret1 (fn := Try.f9) (fun _ _ h => h) rfl (RV.tmp rfl) (M' := M) (by repeat (first | exact ro_refl | exact ro_pre | refine ro_tail ?_ | refine ro_app ?_)) ?_
    exact ⟨rfl, rfl⟩

end Go.Proofs.Ytbjjjapdioegpaa
