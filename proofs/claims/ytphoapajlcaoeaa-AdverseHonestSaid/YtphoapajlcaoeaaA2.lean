/- walks -/
import Derived.Test.YtphoapajlcaoeaaA1
import Derived.Test.YtphoapajlcaoeaaE9d
set_option linter.unusedVariables false
set_option linter.unusedSimpArgs false
set_option maxRecDepth 100000
set_option maxHeartbeats 4000000
namespace Go.Proofs.Ytphoapajlcaoeaa
open Go Go.X
abbrev hobj (b : Nat) (w : W4) (A : Option Addr) (l c : Nat) (k : Int) : Nat × Obj := (b, .cells #[.int .u64 w.a, .int .u64 w.b, .int .u64 w.c, .int .u64 w.d, .slice A l c, .int .i64 k] 185 (0, 0))
/-- (*quorumite/sip.Hash).turn -/
theorem turn_fn (b : Nat) (w : W4) (A : Option Addr) (l c : Nat) (k : Int) (n : Nat) (M : Hp) (hn : n ≤ 1000) : FnC Try.prog 116 #[.pointer (some ⟨b, 0, none⟩), .int .i64 n] (hobj b w A l c k :: M) (fun v M' => v = .tuple #[] ∧ M' = hobj b (rounds n w) A l c k :: M) := by
  refine FnC.intro Try.func116 rfl 50 rfl (by simp) (fun z => ?_)
  refine TC.env (E' := [(0, _), (1, _)]) (Sub.cons rfl (Sub.cons rfl (Sub.nil _))) ?_
  refine TC.seq ?_
  refine TC.region ?_
  refine TL.val rfl rfl (Nat.le_of_ble_eq_true rfl) (Val.move rfl) ?_
  refine TL.val rfl rfl (Nat.le_of_ble_eq_true rfl) (Val.move rfl) ?_
  refine TL.nil ?_
  refine AtX.then ?_
  refine TC.env (E' := [(0, _), (4, _), (5, _)]) (Sub.cons rfl (Sub.cons rfl (Sub.cons rfl (Sub.nil _)))) ?_
  refine TC.block ?_
  refine TC.loop (ι := Nat) (fun j => [(0, .pointer (some ⟨b, 0, none⟩)), (4, .int .i64 n), (5, .int .i64 (j : Nat))]) (fun j => hobj b (rounds j w) A l c k :: M) (fun j => j ≤ n) (fun j => n - j) 0 ?_ (Sub.cons rfl (Sub.cons rfl (Sub.cons rfl (Sub.nil _)))) (fun _ h => h) ?_
  · exact Nat.zero_le _
  intro j hj
  refine TC.seq ?_
  refine TC.region ?_
  refine TL.val rfl rfl (Nat.le_of_ble_eq_true rfl) (Val.lss rfl rfl) ?_
  refine TL.nil ?_
  refine AtX.then ?_
  refine TC.seq ?_
  first | refine TC.condP rfl (fun c1 => ?_) (fun c1 => ?_) | refine TC.condN rfl (fun c1 => ?_) (fun c1 => ?_) | refine TC.condB rfl (fun c1 => ?_) (fun c1 => ?_) | refine TC.cond rfl (fun c1 => ?_) (fun c1 => ?_)
  · skip
    refine TC.skip ?_
    refine AtX.then ?_
    refine TC.seq ?_
    refine TC.block ?_
    refine TC.drawG [33] M mixed 46 ?_
    refine TG.tk false 0 1 rfl rfl rfl (Val.move rfl) ?_
    refine TG.tw false 1 3 rfl rfl rfl (Val.move rfl) ?_
    refine TG.tw false 2 7 rfl rfl rfl (Val.move rfl) ?_
    refine TG.tw false 3 15 rfl rfl rfl (Val.move rfl) ?_
    refine TG.tk false 4 31 rfl rfl rfl (Val.move rfl) ?_
    refine TG.tk false 5 63 rfl rfl rfl (Val.nilCheck rfl) ?_
    refine TG.tk false 6 127 rfl rfl rfl (Val.fieldAddr rfl fl185_0 sz182 rfl) ?_
    refine TG.tk false 7 255 rfl rfl rfl (Val.indexAddrA (i := 0) rfl rfl ar182 sz24 rfl (by first | decide | omega) rfl) ?_
    first
      | refine TG.tk false 8 511 rfl rfl rfl (Val.load 0 rfl ag24 rfl rfl) ?_
      | refine TG.tk false 8 511 rfl rfl rfl (Val.load 1 rfl ag24 rfl rfl) ?_
      | refine TG.tk false 8 511 rfl rfl rfl (Val.load 2 rfl ag24 rfl rfl) ?_
      | refine TG.tk false 8 511 rfl rfl rfl (Val.load 3 rfl ag24 rfl rfl) ?_
      | refine TG.tk false 8 511 rfl rfl rfl (Val.load 4 rfl ag24 rfl rfl) ?_
      | refine TG.tk false 8 511 rfl rfl rfl (Val.load 5 rfl ag24 rfl rfl) ?_
    refine TG.tk false 9 1023 rfl rfl rfl (Val.move rfl) ?_
    refine TG.tk false 10 2047 rfl rfl rfl (Val.nilCheck rfl) ?_
    refine TG.tk false 11 4095 rfl rfl rfl (Val.fieldAddr rfl fl185_0 sz182 rfl) ?_
    refine TG.tk false 12 8191 rfl rfl rfl (Val.indexAddrA (i := 1) rfl rfl ar182 sz24 rfl (by first | decide | omega) rfl) ?_
    first
      | refine TG.tk false 13 16383 rfl rfl rfl (Val.load 0 rfl ag24 rfl rfl) ?_
      | refine TG.tk false 13 16383 rfl rfl rfl (Val.load 1 rfl ag24 rfl rfl) ?_
      | refine TG.tk false 13 16383 rfl rfl rfl (Val.load 2 rfl ag24 rfl rfl) ?_
      | refine TG.tk false 13 16383 rfl rfl rfl (Val.load 3 rfl ag24 rfl rfl) ?_
      | refine TG.tk false 13 16383 rfl rfl rfl (Val.load 4 rfl ag24 rfl rfl) ?_
      | refine TG.tk false 13 16383 rfl rfl rfl (Val.load 5 rfl ag24 rfl rfl) ?_
    refine TG.tk false 14 32767 rfl rfl rfl (Val.move rfl) ?_
    refine TG.tk false 15 65535 rfl rfl rfl (Val.nilCheck rfl) ?_
    refine TG.tk false 16 131071 rfl rfl rfl (Val.fieldAddr rfl fl185_0 sz182 rfl) ?_
    refine TG.tk false 17 262143 rfl rfl rfl (Val.indexAddrA (i := 2) rfl rfl ar182 sz24 rfl (by first | decide | omega) rfl) ?_
    first
      | refine TG.tk false 18 524287 rfl rfl rfl (Val.load 0 rfl ag24 rfl rfl) ?_
      | refine TG.tk false 18 524287 rfl rfl rfl (Val.load 1 rfl ag24 rfl rfl) ?_
      | refine TG.tk false 18 524287 rfl rfl rfl (Val.load 2 rfl ag24 rfl rfl) ?_
      | refine TG.tk false 18 524287 rfl rfl rfl (Val.load 3 rfl ag24 rfl rfl) ?_
      | refine TG.tk false 18 524287 rfl rfl rfl (Val.load 4 rfl ag24 rfl rfl) ?_
      | refine TG.tk false 18 524287 rfl rfl rfl (Val.load 5 rfl ag24 rfl rfl) ?_
    refine TG.tk false 19 1048575 rfl rfl rfl (Val.move rfl) ?_
    refine TG.tk false 20 2097151 rfl rfl rfl (Val.nilCheck rfl) ?_
    refine TG.tk false 21 4194303 rfl rfl rfl (Val.fieldAddr rfl fl185_0 sz182 rfl) ?_
    refine TG.tk false 22 8388607 rfl rfl rfl (Val.indexAddrA (i := 3) rfl rfl ar182 sz24 rfl (by first | decide | omega) rfl) ?_
    first
      | refine TG.tk false 23 16777215 rfl rfl rfl (Val.load 0 rfl ag24 rfl rfl) ?_
      | refine TG.tk false 23 16777215 rfl rfl rfl (Val.load 1 rfl ag24 rfl rfl) ?_
      | refine TG.tk false 23 16777215 rfl rfl rfl (Val.load 2 rfl ag24 rfl rfl) ?_
      | refine TG.tk false 23 16777215 rfl rfl rfl (Val.load 3 rfl ag24 rfl rfl) ?_
      | refine TG.tk false 23 16777215 rfl rfl rfl (Val.load 4 rfl ag24 rfl rfl) ?_
      | refine TG.tk false 23 16777215 rfl rfl rfl (Val.load 5 rfl ag24 rfl rfl) ?_
    refine TG.tw false 30 1090519039 rfl rfl rfl (Val.nilCheck rfl) ?_
    refine TG.tw false 31 3238002687 rfl rfl rfl (Val.fieldAddr rfl fl185_0 sz182 rfl) ?_
    refine TG.tw false 34 20417871871 rfl rfl rfl (Val.nilCheck rfl) ?_
    refine TG.tw false 35 54777610239 rfl rfl rfl (Val.fieldAddr rfl fl185_0 sz182 rfl) ?_
    refine TG.tw false 38 329655517183 rfl rfl rfl (Val.nilCheck rfl) ?_
    refine TG.tw false 39 879411331071 rfl rfl rfl (Val.fieldAddr rfl fl185_0 sz182 rfl) ?_
    refine TG.tw false 42 5277457842175 rfl rfl rfl (Val.nilCheck rfl) ?_
    refine TG.tw false 43 14073550864383 rfl rfl rfl (Val.fieldAddr rfl fl185_0 sz182 rfl) ?_
    refine TG.one 24 (by kernel_rfl) ?_
    refine TP.dz false 14073567641599 (some 32) rfl rfl rfl rfl (Does.callF go121 rfl (Round_fn (rounds j w) _)) ?_
    rintro _ _ ⟨rfl, rfl⟩
    refine roK ?_
    refine TG.tk false 25 14073601196031 rfl rfl rfl (Val.move rfl) ?_
    refine TG.tk false 26 14073668304895 rfl rfl rfl (Val.extract rfl rfl) ?_
    refine TG.tw false 27 14073802522623 rfl rfl rfl (Val.extract rfl rfl) ?_
    refine TG.tw false 28 14074070958079 rfl rfl rfl (Val.extract rfl rfl) ?_
    refine TG.tw false 29 14074607828991 rfl rfl rfl (Val.extract rfl rfl) ?_
    refine TG.tk false 32 14078902796287 rfl rfl rfl (Val.indexAddrA (i := 0) rfl rfl ar182 sz24 rfl (by first | decide | omega) rfl) ?_
    refine TG.one 33 (by kernel_rfl) ?_
    first
      | refine TP.dz true 14087492730879 none rfl rfl rfl rfl (Does.store (i := 0) rfl rfl rfl sz24 rfl rfl (by first | exact Nat.le_of_ble_eq_true rfl | decide | omega) rfl rfl) ?_
      | refine TP.dz true 14087492730879 none rfl rfl rfl rfl (Does.store (i := 1) rfl rfl rfl sz24 rfl rfl (by first | exact Nat.le_of_ble_eq_true rfl | decide | omega) rfl rfl) ?_
      | refine TP.dz true 14087492730879 none rfl rfl rfl rfl (Does.store (i := 2) rfl rfl rfl sz24 rfl rfl (by first | exact Nat.le_of_ble_eq_true rfl | decide | omega) rfl rfl) ?_
      | refine TP.dz true 14087492730879 none rfl rfl rfl rfl (Does.store (i := 3) rfl rfl rfl sz24 rfl rfl (by first | exact Nat.le_of_ble_eq_true rfl | decide | omega) rfl rfl) ?_
      | refine TP.dz true 14087492730879 none rfl rfl rfl rfl (Does.store (i := 4) rfl rfl rfl sz24 rfl rfl (by first | exact Nat.le_of_ble_eq_true rfl | decide | omega) rfl rfl) ?_
      | refine TP.dz true 14087492730879 none rfl rfl rfl rfl (Does.store (i := 5) rfl rfl rfl sz24 rfl rfl (by first | exact Nat.le_of_ble_eq_true rfl | decide | omega) rfl rfl) ?_
    rintro _ _ ⟨rfl, rfl⟩
    refine roK ?_
    refine TG.tk true 36 14156212207615 rfl rfl rfl (Val.indexAddrA (i := 1) rfl rfl ar182 sz24 rfl (by first | decide | omega) rfl) ?_
    refine TG.one 37 (by kernel_rfl) ?_
    first
      | refine TP.dz true 14293651161087 none rfl rfl rfl rfl (Does.store (i := 0) rfl rfl rfl sz24 rfl rfl (by first | exact Nat.le_of_ble_eq_true rfl | decide | omega) rfl rfl) ?_
      | refine TP.dz true 14293651161087 none rfl rfl rfl rfl (Does.store (i := 1) rfl rfl rfl sz24 rfl rfl (by first | exact Nat.le_of_ble_eq_true rfl | decide | omega) rfl rfl) ?_
      | refine TP.dz true 14293651161087 none rfl rfl rfl rfl (Does.store (i := 2) rfl rfl rfl sz24 rfl rfl (by first | exact Nat.le_of_ble_eq_true rfl | decide | omega) rfl rfl) ?_
      | refine TP.dz true 14293651161087 none rfl rfl rfl rfl (Does.store (i := 3) rfl rfl rfl sz24 rfl rfl (by first | exact Nat.le_of_ble_eq_true rfl | decide | omega) rfl rfl) ?_
      | refine TP.dz true 14293651161087 none rfl rfl rfl rfl (Does.store (i := 4) rfl rfl rfl sz24 rfl rfl (by first | exact Nat.le_of_ble_eq_true rfl | decide | omega) rfl rfl) ?_
      | refine TP.dz true 14293651161087 none rfl rfl rfl rfl (Does.store (i := 5) rfl rfl rfl sz24 rfl rfl (by first | exact Nat.le_of_ble_eq_true rfl | decide | omega) rfl rfl) ?_
    rintro _ _ ⟨rfl, rfl⟩
    refine roK ?_
    refine TG.tk true 40 15393162788863 rfl rfl rfl (Val.indexAddrA (i := 2) rfl rfl ar182 sz24 rfl (by first | decide | omega) rfl) ?_
    refine TG.one 41 (by kernel_rfl) ?_
    first
      | refine TP.dz true 17592186044415 none rfl rfl rfl rfl (Does.store (i := 0) rfl rfl rfl sz24 rfl rfl (by first | exact Nat.le_of_ble_eq_true rfl | decide | omega) rfl rfl) ?_
      | refine TP.dz true 17592186044415 none rfl rfl rfl rfl (Does.store (i := 1) rfl rfl rfl sz24 rfl rfl (by first | exact Nat.le_of_ble_eq_true rfl | decide | omega) rfl rfl) ?_
      | refine TP.dz true 17592186044415 none rfl rfl rfl rfl (Does.store (i := 2) rfl rfl rfl sz24 rfl rfl (by first | exact Nat.le_of_ble_eq_true rfl | decide | omega) rfl rfl) ?_
      | refine TP.dz true 17592186044415 none rfl rfl rfl rfl (Does.store (i := 3) rfl rfl rfl sz24 rfl rfl (by first | exact Nat.le_of_ble_eq_true rfl | decide | omega) rfl rfl) ?_
      | refine TP.dz true 17592186044415 none rfl rfl rfl rfl (Does.store (i := 4) rfl rfl rfl sz24 rfl rfl (by first | exact Nat.le_of_ble_eq_true rfl | decide | omega) rfl rfl) ?_
      | refine TP.dz true 17592186044415 none rfl rfl rfl rfl (Does.store (i := 5) rfl rfl rfl sz24 rfl rfl (by first | exact Nat.le_of_ble_eq_true rfl | decide | omega) rfl rfl) ?_
    rintro _ _ ⟨rfl, rfl⟩
    refine roK ?_
    refine TG.tk true 44 35184372088831 rfl rfl rfl (Val.indexAddrA (i := 3) rfl rfl ar182 sz24 rfl (by first | decide | omega) rfl) ?_
    refine TG.one 45 (by kernel_rfl) ?_
    first
      | refine TP.dz true 70368744177663 none rfl rfl rfl rfl (Does.store (i := 0) rfl rfl rfl sz24 rfl rfl (by first | exact Nat.le_of_ble_eq_true rfl | decide | omega) rfl rfl) ?_
      | refine TP.dz true 70368744177663 none rfl rfl rfl rfl (Does.store (i := 1) rfl rfl rfl sz24 rfl rfl (by first | exact Nat.le_of_ble_eq_true rfl | decide | omega) rfl rfl) ?_
      | refine TP.dz true 70368744177663 none rfl rfl rfl rfl (Does.store (i := 2) rfl rfl rfl sz24 rfl rfl (by first | exact Nat.le_of_ble_eq_true rfl | decide | omega) rfl rfl) ?_
      | refine TP.dz true 70368744177663 none rfl rfl rfl rfl (Does.store (i := 3) rfl rfl rfl sz24 rfl rfl (by first | exact Nat.le_of_ble_eq_true rfl | decide | omega) rfl rfl) ?_
      | refine TP.dz true 70368744177663 none rfl rfl rfl rfl (Does.store (i := 4) rfl rfl rfl sz24 rfl rfl (by first | exact Nat.le_of_ble_eq_true rfl | decide | omega) rfl rfl) ?_
      | refine TP.dz true 70368744177663 none rfl rfl rfl rfl (Does.store (i := 5) rfl rfl rfl sz24 rfl rfl (by first | exact Nat.le_of_ble_eq_true rfl | decide | omega) rfl rfl) ?_
    rintro _ _ ⟨rfl, rfl⟩
    refine roK ?_
    refine TG.done (by kernel_rfl) ?_ _
    refine AtX.blk ?_
    refine AtX.then ?_
    refine TC.region ?_
    first
      | refine TL.val rfl rfl (Nat.le_of_ble_eq_true rfl) (Val.add rfl rfl (w_i64 (by omega) (by omega))) ?_
      | refine TL.val rfl rfl (Nat.le_of_ble_eq_true rfl) (Val.add rfl rfl rfl) ?_
    refine TL.val rfl rfl (Nat.le_of_ble_eq_true rfl) (Val.move rfl) ?_
    refine TL.nil ?_
    refine AtX.round (j + 1) ?_ ?_ (Sub.cons rfl (Sub.cons rfl (Sub.cons rfl (Sub.nil _)))) (fun _ h => h)
    · omega
    · omega
  · skip
    refine TC.exit ?_
    refine AtX.seqX ?_
    refine AtX.seqX ?_
    refine AtX.hit ?_
    refine AtX.end0 rfl (fun _ h => h) ?_
    have hjn : j = n := by omega
    subst hjn
    exact ⟨rfl, rfl⟩

end Go.Proofs.Ytphoapajlcaoeaa
