/- Texts put together: A2, A3, A4, A5, A6, A7, A8, A11, A56, A9, A10. -/
import Derived.Test.YtphoapajlcaoeaaW1
import Derived.Test.YtphoapajlcaoeaaG1
import Derived.Test.YtphoapajlcaoeaaG2
/- walks -/
set_option linter.unusedVariables false
set_option linter.unusedSimpArgs false
set_option maxRecDepth 100000
set_option maxHeartbeats 4000000
namespace Go.Proofs.Ytphoapajlcaoeaa
open Go Go.X
abbrev hobj (b : Nat) (w : W4) (A : Option Addr) (l c : Nat) (k : Int) : Nat × Obj := (b, .cells #[.int .u64 w.a, .int .u64 w.b, .int .u64 w.c, .int .u64 w.d, .slice A l c, .int .i64 k] 185 (0, 0))
/-- (*quorumite/sip.Hash).turn -/
theorem turn_fn (b : Nat) (w : W4) (A : Option Addr) (l c : Nat) (k : Int) (n : Nat) (M : Hp) (hn : n ≤ 1000) : FnC Try.prog 116 #[.pointer (some ⟨b, 0, none⟩), .int .i64 n] (hobj b w A l c k :: M) (fun v M' => v = .tuple #[] ∧ M' = hobj b (rounds n w) A l c k :: M) := by
  refine FnC.intro Try.func116 rfl 50 rfl (by simp) (fun z => ?_)
  refine TC.env (E' := [(0, _), (1, _)]) (Sub.cons rfl (Sub.cons rfl (Sub.nil _))) ?_
  refine TC.seq ?_
  refine TC.region ?_
  refine TL.val rfl rfl (Nat.le_of_ble_eq_true rfl) (Val.move rfl) ?_
  refine TL.val rfl rfl (Nat.le_of_ble_eq_true rfl) (Val.move rfl) ?_
  refine TL.nil ?_
  refine AtX.then ?_
  refine TC.env (E' := [(0, _), (4, _), (5, _)]) (Sub.cons rfl (Sub.cons rfl (Sub.cons rfl (Sub.nil _)))) ?_
  refine TC.block ?_
  refine TC.loop (ι := Nat) (fun j => [(0, .pointer (some ⟨b, 0, none⟩)), (4, .int .i64 n), (5, .int .i64 (j : Nat))]) (fun j => hobj b (rounds j w) A l c k :: M) (fun j => j ≤ n) (fun j => n - j) 0 ?_ (Sub.cons rfl (Sub.cons rfl (Sub.cons rfl (Sub.nil _)))) (fun _ h => h) ?_
  · exact Nat.zero_le _
  intro j hj
  refine TC.seq ?_
  refine TC.region ?_
  refine TL.val rfl rfl (Nat.le_of_ble_eq_true rfl) (Val.lss rfl rfl) ?_
  refine TL.nil ?_
  refine AtX.then ?_
  refine TC.seq ?_
  first | refine TC.condP rfl (fun c1 => ?_) (fun c1 => ?_) | refine TC.condN rfl (fun c1 => ?_) (fun c1 => ?_) | refine TC.condB rfl (fun c1 => ?_) (fun c1 => ?_) | refine TC.cond rfl (fun c1 => ?_) (fun c1 => ?_)
  · skip
    refine TC.skip ?_
    refine AtX.then ?_
    refine TC.seq ?_
    refine TC.block ?_
    refine TC.drawG [33] M mixed 46 ?_
    refine TG.tk false 0 1 rfl rfl rfl (Val.move rfl) ?_
    refine TG.tw false 1 3 rfl rfl rfl (Val.move rfl) ?_
    refine TG.tw false 2 7 rfl rfl rfl (Val.move rfl) ?_
    refine TG.tw false 3 15 rfl rfl rfl (Val.move rfl) ?_
    refine TG.tk false 4 31 rfl rfl rfl (Val.move rfl) ?_
    refine TG.tk false 5 63 rfl rfl rfl (Val.nilCheck rfl) ?_
    refine TG.tk false 6 127 rfl rfl rfl (Val.fieldAddr rfl fl185_0 sz182 rfl) ?_
    refine TG.tk false 7 255 rfl rfl rfl (Val.indexAddrA (i := 0) rfl rfl ar182 sz24 rfl (by first | decide | omega) rfl) ?_
    refine TG.tk false 8 511 rfl rfl rfl (Val.load 0 rfl ag24 rfl rfl) ?_
    refine TG.tk false 9 1023 rfl rfl rfl (Val.move rfl) ?_
    refine TG.tk false 10 2047 rfl rfl rfl (Val.nilCheck rfl) ?_
    refine TG.tk false 11 4095 rfl rfl rfl (Val.fieldAddr rfl fl185_0 sz182 rfl) ?_
    refine TG.tk false 12 8191 rfl rfl rfl (Val.indexAddrA (i := 1) rfl rfl ar182 sz24 rfl (by first | decide | omega) rfl) ?_
    refine TG.tk false 13 16383 rfl rfl rfl (Val.load 0 rfl ag24 rfl rfl) ?_
    refine TG.tk false 14 32767 rfl rfl rfl (Val.move rfl) ?_
    refine TG.tk false 15 65535 rfl rfl rfl (Val.nilCheck rfl) ?_
    refine TG.tk false 16 131071 rfl rfl rfl (Val.fieldAddr rfl fl185_0 sz182 rfl) ?_
    refine TG.tk false 17 262143 rfl rfl rfl (Val.indexAddrA (i := 2) rfl rfl ar182 sz24 rfl (by first | decide | omega) rfl) ?_
    refine TG.tk false 18 524287 rfl rfl rfl (Val.load 0 rfl ag24 rfl rfl) ?_
    refine TG.tk false 19 1048575 rfl rfl rfl (Val.move rfl) ?_
    refine TG.tk false 20 2097151 rfl rfl rfl (Val.nilCheck rfl) ?_
    refine TG.tk false 21 4194303 rfl rfl rfl (Val.fieldAddr rfl fl185_0 sz182 rfl) ?_
    refine TG.tk false 22 8388607 rfl rfl rfl (Val.indexAddrA (i := 3) rfl rfl ar182 sz24 rfl (by first | decide | omega) rfl) ?_
    refine TG.tk false 23 16777215 rfl rfl rfl (Val.load 0 rfl ag24 rfl rfl) ?_
    refine TG.tw false 30 1090519039 rfl rfl rfl (Val.nilCheck rfl) ?_
    refine TG.tw false 31 3238002687 rfl rfl rfl (Val.fieldAddr rfl fl185_0 sz182 rfl) ?_
    refine TG.tw false 34 20417871871 rfl rfl rfl (Val.nilCheck rfl) ?_
    refine TG.tw false 35 54777610239 rfl rfl rfl (Val.fieldAddr rfl fl185_0 sz182 rfl) ?_
    refine TG.tw false 38 329655517183 rfl rfl rfl (Val.nilCheck rfl) ?_
    refine TG.tw false 39 879411331071 rfl rfl rfl (Val.fieldAddr rfl fl185_0 sz182 rfl) ?_
    refine TG.tw false 42 5277457842175 rfl rfl rfl (Val.nilCheck rfl) ?_
    refine TG.tw false 43 14073550864383 rfl rfl rfl (Val.fieldAddr rfl fl185_0 sz182 rfl) ?_
    refine TG.one 24 (by kernel_rfl) ?_
    refine TP.dz false 14073567641599 (some 32) rfl rfl rfl rfl (Does.callF go121 rfl (Round_fn (rounds j w) _)) ?_
    rintro _ _ ⟨rfl, rfl⟩
    refine roK ?_
    refine TG.tk false 25 14073601196031 rfl rfl rfl (Val.move rfl) ?_
    refine TG.tk false 26 14073668304895 rfl rfl rfl (Val.extract rfl rfl) ?_
    refine TG.tw false 27 14073802522623 rfl rfl rfl (Val.extract rfl rfl) ?_
    refine TG.tw false 28 14074070958079 rfl rfl rfl (Val.extract rfl rfl) ?_
    refine TG.tw false 29 14074607828991 rfl rfl rfl (Val.extract rfl rfl) ?_
    refine TG.tk false 32 14078902796287 rfl rfl rfl (Val.indexAddrA (i := 0) rfl rfl ar182 sz24 rfl (by first | decide | omega) rfl) ?_
    refine TG.one 33 (by kernel_rfl) ?_
    refine TP.dz true 14087492730879 none rfl rfl rfl rfl (Does.store (i := 0) rfl rfl rfl sz24 rfl rfl (by first | exact Nat.le_of_ble_eq_true rfl | decide | omega) rfl rfl) ?_
    rintro _ _ ⟨rfl, rfl⟩
    refine roK ?_
    refine TG.tk true 36 14156212207615 rfl rfl rfl (Val.indexAddrA (i := 1) rfl rfl ar182 sz24 rfl (by first | decide | omega) rfl) ?_
    refine TG.one 37 (by kernel_rfl) ?_
    refine TP.dz true 14293651161087 none rfl rfl rfl rfl (Does.store (i := 0) rfl rfl rfl sz24 rfl rfl (by first | exact Nat.le_of_ble_eq_true rfl | decide | omega) rfl rfl) ?_
    rintro _ _ ⟨rfl, rfl⟩
    refine roK ?_
    refine TG.tk true 40 15393162788863 rfl rfl rfl (Val.indexAddrA (i := 2) rfl rfl ar182 sz24 rfl (by first | decide | omega) rfl) ?_
    refine TG.one 41 (by kernel_rfl) ?_
    refine TP.dz true 17592186044415 none rfl rfl rfl rfl (Does.store (i := 0) rfl rfl rfl sz24 rfl rfl (by first | exact Nat.le_of_ble_eq_true rfl | decide | omega) rfl rfl) ?_
    rintro _ _ ⟨rfl, rfl⟩
    refine roK ?_
    refine TG.tk true 44 35184372088831 rfl rfl rfl (Val.indexAddrA (i := 3) rfl rfl ar182 sz24 rfl (by first | decide | omega) rfl) ?_
    refine TG.one 45 (by kernel_rfl) ?_
    refine TP.dz true 70368744177663 none rfl rfl rfl rfl (Does.store (i := 0) rfl rfl rfl sz24 rfl rfl (by first | exact Nat.le_of_ble_eq_true rfl | decide | omega) rfl rfl) ?_
    rintro _ _ ⟨rfl, rfl⟩
    refine roK ?_
    refine TG.done (by kernel_rfl) ?_ _
    refine AtX.blk ?_
    refine AtX.then ?_
    refine TC.region ?_
    refine TL.val rfl rfl (Nat.le_of_ble_eq_true rfl) (Val.add rfl rfl (w_i64 (by omega) (by omega))) ?_
    refine TL.val rfl rfl (Nat.le_of_ble_eq_true rfl) (Val.move rfl) ?_
    refine TL.nil ?_
    refine AtX.round (j + 1) ?_ ?_ (Sub.cons rfl (Sub.cons rfl (Sub.cons rfl (Sub.nil _)))) (fun _ h => h)
    · omega
    · omega
  · skip
    refine TC.exit ?_
    refine AtX.seqX ?_
    refine AtX.seqX ?_
    refine AtX.hit ?_
    refine AtX.end0 rfl (fun _ h => h) ?_
    have hjn : j = n := by omega
    subst hjn
    exact ⟨rfl, rfl⟩

end Go.Proofs.Ytphoapajlcaoeaa
/- walks -/
set_option linter.unusedVariables false
set_option linter.unusedSimpArgs false
set_option maxRecDepth 100000
set_option maxHeartbeats 4000000
namespace Go.Proofs.Ytphoapajlcaoeaa
open Go Go.X
/-- (*quorumite/sip.Hash).take -/
theorem take_fn (b : Nat) (w : W4) (A : Option Addr) (l c : Nat) (k m : Int) (M : Hp) : FnC Try.prog 115 #[.pointer (some ⟨b, 0, none⟩), .int .u64 m] (hobj b w A l c k :: M) (fun v M' => v = .tuple #[] ∧ M' = hobj b (takeW m w) A l c k :: M) := by
  refine FnC.intro Try.func115 rfl 26 rfl (by simp) (fun z => ?_)
  refine TC.env (E' := [(0, _), (1, _)]) (Sub.cons rfl (Sub.cons rfl (Sub.nil _))) ?_
  refine TC.seq ?_
  refine TC.drawG [10] M mixed 11 ?_
  refine TG.tk false 0 1 rfl rfl rfl (Val.move rfl) ?_
  refine TG.tk false 1 3 rfl rfl rfl (Val.nilCheck rfl) ?_
  refine TG.tk false 2 7 rfl rfl rfl (Val.fieldAddr rfl fl185_0 sz182 rfl) ?_
  refine TG.tk false 3 15 rfl rfl rfl (Val.indexAddrA (i := 3) rfl rfl ar182 sz24 rfl (by first | decide | omega) rfl) ?_
  refine TG.tk false 4 31 rfl rfl rfl (Val.load 0 rfl ag24 rfl rfl) ?_
  refine TG.tk false 5 63 rfl rfl rfl (Val.move rfl) ?_
  refine TG.tk false 6 127 rfl rfl rfl (Val.xor rfl rfl rfl) ?_
  refine TG.tw false 7 255 rfl rfl rfl (Val.nilCheck rfl) ?_
  refine TG.tw false 8 511 rfl rfl rfl (Val.fieldAddr rfl fl185_0 sz182 rfl) ?_
  refine TG.tk false 9 1023 rfl rfl rfl (Val.indexAddrA (i := 3) rfl rfl ar182 sz24 rfl (by first | decide | omega) rfl) ?_
  refine TG.one 10 (by kernel_rfl) ?_
  refine TP.dz true 2047 none rfl rfl rfl rfl (Does.store (i := 0) rfl rfl rfl sz24 rfl rfl (by first | exact Nat.le_of_ble_eq_true rfl | decide | omega) rfl rfl) ?_
  rintro _ _ ⟨rfl, rfl⟩
  refine roK ?_
  refine TG.done (by kernel_rfl) ?_ _
  refine AtX.then ?_
  refine TC.env (E' := [(0, _), (1, _)]) (Sub.cons rfl (Sub.cons rfl (Sub.nil _))) ?_
  refine TC.seq ?_
  refine TC.region ?_
  refine TL.val rfl rfl (Nat.le_of_ble_eq_true rfl) (Val.move rfl) ?_
  refine TL.does (some 15) rfl rfl rfl (Does.callF go116 rfl (turn_fn b { w with d := xor64 w.d m } A l c k 2 M (by decide))) ?_
  rintro _ _ ⟨rfl, rfl⟩
  generalize hv : rounds 2 { w with d := xor64 w.d m } = v
  refine TL.nil ?_
  refine AtX.then ?_
  refine TC.env (E' := [(0, _), (1, _)]) (Sub.cons rfl (Sub.cons rfl (Sub.nil _))) ?_
  refine TC.drawG [10] M mixed 11 ?_
  refine TG.tk false 0 1 rfl rfl rfl (Val.move rfl) ?_
  refine TG.tk false 1 3 rfl rfl rfl (Val.nilCheck rfl) ?_
  refine TG.tk false 2 7 rfl rfl rfl (Val.fieldAddr rfl fl185_0 sz182 rfl) ?_
  refine TG.tk false 3 15 rfl rfl rfl (Val.indexAddrA (i := 0) rfl rfl ar182 sz24 rfl (by first | decide | omega) rfl) ?_
  refine TG.tk false 4 31 rfl rfl rfl (Val.load 0 rfl ag24 rfl rfl) ?_
  refine TG.tk false 5 63 rfl rfl rfl (Val.move rfl) ?_
  refine TG.tk false 6 127 rfl rfl rfl (Val.xor rfl rfl rfl) ?_
  refine TG.tw false 7 255 rfl rfl rfl (Val.nilCheck rfl) ?_
  refine TG.tw false 8 511 rfl rfl rfl (Val.fieldAddr rfl fl185_0 sz182 rfl) ?_
  refine TG.tk false 9 1023 rfl rfl rfl (Val.indexAddrA (i := 0) rfl rfl ar182 sz24 rfl (by first | decide | omega) rfl) ?_
  refine TG.one 10 (by kernel_rfl) ?_
  refine TP.dz true 2047 none rfl rfl rfl rfl (Does.store (i := 0) rfl rfl rfl sz24 rfl rfl (by first | exact Nat.le_of_ble_eq_true rfl | decide | omega) rfl rfl) ?_
  rintro _ _ ⟨rfl, rfl⟩
  refine roK ?_
  refine TG.done (by kernel_rfl) ?_ _
  refine AtX.end0 rfl (fun _ h => h) ?_
  rw [takeW_eq hv]
  exact ⟨rfl, rfl⟩

/-- quorumite/sip.begin -/
theorem begin_fn (M : Hp) : FnC Try.prog 114 #[] M (fun v M' => v = .agg #[.int .u64 w0.a, .int .u64 w0.b, .int .u64 w0.c, .int .u64 w0.d] ∧ M = M') := by
  refine FnC.intro Try.func114 rfl 25 rfl (by simp) (fun z => ?_)
  refine TC.env (E' := []) (Sub.nil _) ?_
  refine TC.seq ?_
  refine TC.region ?_
  refine TL.does (some 0) rfl rfl rfl (Does.alloc ze182 rfl) ?_
  rintro _ _ ⟨b1, rfl, rfl⟩
  refine TL.nil ?_
  refine AtX.then ?_
  refine TC.seq ?_
  refine TC.seq ?_
  refine TC.region ?_
  refine TL.val rfl rfl (Nat.le_of_ble_eq_true rfl) (Val.move rfl) ?_
  refine TL.nil ?_
  refine AtX.then ?_
  refine TC.block ?_
  refine TC.loop (ι := Nat) (fun k => [(0, .pointer (some ⟨b1, 0, none⟩)), (3, .int .i64 (k : Nat))]) (fun k => (b1, .cells (begR k 0).toArray 182 (0, 0)) :: M) (fun k => k ≤ 4) (fun k => 4 - k) 0 ?_ (Sub.cons rfl (Sub.cons rfl (Sub.nil _))) (fun w h => by rw [begR_0]; exact h) ?_
  · exact Nat.zero_le _
  intro k hk
  refine TC.seq ?_
  refine TC.region ?_
  refine TL.val rfl rfl (Nat.le_of_ble_eq_true rfl) (Val.lss rfl rfl) ?_
  refine TL.nil ?_
  refine AtX.then ?_
  refine TC.seq ?_
  first | refine TC.condP rfl (fun c1 => ?_) (fun c1 => ?_) | refine TC.condN rfl (fun c1 => ?_) (fun c1 => ?_) | refine TC.condB rfl (fun c1 => ?_) (fun c1 => ?_) | refine TC.cond rfl (fun c1 => ?_) (fun c1 => ?_)
  · skip
    refine TC.skip ?_
    refine AtX.then ?_
    refine TC.seq ?_
    refine TC.block ?_
    refine TC.seq ?_
    refine TC.region ?_
    refine TL.val rfl rfl (Nat.le_of_ble_eq_true rfl) (Val.move rfl) ?_
    refine TL.val rfl rfl (Nat.le_of_ble_eq_true rfl) (Val.assign rfl) ?_
    refine TL.nil ?_
    refine AtX.then ?_
    refine TC.seq ?_
    refine TC.region ?_
    refine TL.val rfl rfl (Nat.le_of_ble_eq_true rfl) (Val.move rfl) ?_
    refine TL.nil ?_
    refine AtX.then ?_
    refine TC.block ?_
    refine TC.loop (ι := Nat) (fun i => [(0, .pointer (some ⟨b1, 0, none⟩)), (1, .int .i64 (k : Nat)), (3, .int .i64 (k : Nat)), (6, .int .i64 (i : Nat))]) (fun i => (b1, .cells (begR k i).toArray 182 (0, 0)) :: M) (fun i => i ≤ 8) (fun i => 8 - i) 0 ?_ (Sub.cons rfl (Sub.cons rfl (Sub.cons rfl (Sub.cons rfl (Sub.nil _))))) (fun _ h => h) ?_
    · exact Nat.zero_le _
    intro i hi
    refine TC.seq ?_
    refine TC.region ?_
    refine TL.val rfl rfl (Nat.le_of_ble_eq_true rfl) (Val.lss rfl rfl) ?_
    refine TL.nil ?_
    refine AtX.then ?_
    refine TC.seq ?_
    first | refine TC.condP rfl (fun c2 => ?_) (fun c2 => ?_) | refine TC.condN rfl (fun c2 => ?_) (fun c2 => ?_) | refine TC.condB rfl (fun c2 => ?_) (fun c2 => ?_) | refine TC.cond rfl (fun c2 => ?_) (fun c2 => ?_)
    · skip
      refine TC.skip ?_
      refine AtX.then ?_
      refine TC.seq ?_
      refine TC.block ?_
      refine TC.seq ?_
      refine TC.region ?_
      refine TL.val rfl rfl (Nat.le_of_ble_eq_true rfl) (Val.move rfl) ?_
      refine TL.val rfl rfl (Nat.le_of_ble_eq_true rfl) (Val.assign rfl) ?_
      refine TL.nil ?_
      refine AtX.then ?_
      have hk4 : k < 4 := by omega
      have hi8 : i < 8 := by omega
      refine TC.drawG [13] M mixed 14 ?_
      refine TG.tk false 0 1 rfl rfl rfl (Val.move rfl) ?_
      refine TG.tk false 1 3 rfl rfl rfl (Val.move rfl) ?_
      refine TG.tk false 2 7 rfl rfl rfl (Val.indexAddrA (i := k) (r := k) rfl rfl ar182 sz24 rfl hk4 (by omega)) ?_
      refine TG.tk false 3 15 rfl rfl rfl (Val.load 0 rfl ag24 rfl (v := .int .u64 (bw k i)) (by simpa using begR_nth hk4)) ?_
      refine TG.tk false 4 31 rfl rfl rfl (Val.shl rfl rfl (by omega) (r := IntKind.u64.wrap (bw k i * 2 ^ 8)) rfl) ?_
      refine TG.tk false 5 63 rfl rfl rfl (Val.move rfl) ?_
      refine TG.tk false 6 127 rfl rfl rfl (Val.mul rfl rfl (r := 8 * (k : Int)) (w_i64 (by omega) (by omega))) ?_
      refine TG.tk false 7 255 rfl rfl rfl (Val.move rfl) ?_
      refine TG.tk false 8 511 rfl rfl rfl (Val.add rfl rfl (r := ((8 * k + i : Nat) : Int)) (by rw [w_i64 (by omega) (by omega)]; push_cast; rfl)) ?_
      refine TG.tk false 9 1023 rfl rfl rfl (Val.indexL (l := txtB) (i := 8 * k + i) rfl rfl un9 rfl (by show 8 * k + i < 32; omega)) ?_
      refine TG.tk false 10 2047 rfl rfl rfl (Val.convI rfl iu5 in24 (w_u64 (by have := UInt8.toNat_lt (txtB.getD (8 * k + i) 0); omega) (by have := UInt8.toNat_lt (txtB.getD (8 * k + i) 0); omega))) ?_
      refine TG.tk false 11 4095 rfl rfl rfl (Val.or rfl rfl (r := bw k (i + 1)) rfl) ?_
      refine TG.tk false 12 8191 rfl rfl rfl (Val.indexAddrA (i := k) (r := k) rfl rfl ar182 sz24 rfl hk4 (by omega)) ?_
      refine TG.one 13 (by kernel_rfl) ?_
      refine TP.dz true 16383 none rfl rfl rfl rfl (Does.store (i := 0) rfl rfl rfl sz24 rfl rfl (by simp [begR]; omega) (begR_splice (i := i) hk4) rfl) ?_
      rintro _ _ ⟨rfl, rfl⟩
      refine roK ?_
      refine TG.done (by kernel_rfl) ?_ _
      refine AtX.blk ?_
      refine AtX.then ?_
      refine TC.region ?_
      refine TL.val rfl rfl (Nat.le_of_ble_eq_true rfl) (Val.add rfl rfl (w_i64 (by omega) (by omega))) ?_
      refine TL.val rfl rfl (Nat.le_of_ble_eq_true rfl) (Val.move rfl) ?_
      refine TL.nil ?_
      refine AtX.round (i + 1) ?_ ?_ (Sub.cons rfl (Sub.cons rfl (Sub.cons rfl (Sub.cons rfl (Sub.nil _))))) (fun _ h => h)
      · omega
      · omega
    · skip
      refine TC.exit ?_
      refine AtX.seqX ?_
      refine AtX.seqX ?_
      refine AtX.hit ?_
      refine AtX.blk ?_
      refine AtX.then ?_
      have h8 : i = 8 := by omega
      subst h8
      refine TC.region ?_
      refine TL.val rfl rfl (Nat.le_of_ble_eq_true rfl) (Val.add rfl rfl (w_i64 (by omega) (by omega))) ?_
      refine TL.val rfl rfl (Nat.le_of_ble_eq_true rfl) (Val.move rfl) ?_
      refine TL.nil ?_
      refine AtX.round (k + 1) ?_ ?_ (Sub.cons rfl (Sub.cons rfl (Sub.nil _))) (fun w h => by rw [← begR_next]; exact h)
      · omega
      · omega
  · skip
    refine TC.exit ?_
    refine AtX.seqX ?_
    refine AtX.seqX ?_
    refine AtX.hit ?_
    refine AtX.then ?_
    refine TC.env (E' := [(0, _)]) (Sub.cons rfl (Sub.nil _)) ?_
    refine TC.seq ?_
    have h4 : k = 4 := by omega
    subst h4
    rw [begR_end]
    refine TC.region ?_
    refine TL.val rfl rfl (Nat.le_of_ble_eq_true rfl) (Val.loadAgg 0 rfl ag182 sz182 rfl rfl rfl) ?_
    refine TL.does none rfl rfl rfl (Does.store (i := 0) rfl rfl rfl sz182 rfl rfl (by first | exact Nat.le_of_ble_eq_true rfl | decide | omega) rfl rfl) ?_
    rintro _ _ ⟨rfl, rfl⟩
    refine TL.nil ?_
    refine AtX.then ?_
    refine TC.env (E' := [(0, _)]) (Sub.cons rfl (Sub.nil _)) ?_
    refine TC.ret1 (fn := Try.f114) (fun _ _ h => h) rfl (RV.agg (i := 0) rfl ag182 sz182 rfl rfl rfl) (M' := M) (by repeat (first | exact ro_refl | exact ro_pre | refine ro_tail ?_ | refine ro_app ?_)) ?_
    exact ⟨rfl, rfl⟩

/-- quorumite/sip.New -/
theorem New_fn (k : K2) (M : Hp) : FnC Try.prog 102 #[.agg #[.int .u64 k.a, .int .u64 k.b]] M (fun v M' => ∃ b, v = .pointer (some ⟨b, 0, none⟩) ∧ M' = hobj b (keyW k.a k.b) none 0 0 0 :: M) := by
  refine FnC.intro Try.func102 rfl 27 rfl (by simp) (fun z => ?_)
  refine TC.env (E' := [(0, _)]) (Sub.cons rfl (Sub.nil _)) ?_
  refine TC.seq ?_
  refine TC.region ?_
  refine TL.does (some 1) rfl rfl rfl (Does.box rfl rfl) ?_
  rintro _ _ ⟨b1, rfl, rfl⟩
  refine TL.val rfl rfl (Nat.le_of_ble_eq_true rfl) (Val.assign rfl) ?_
  refine TL.nil ?_
  refine AtX.then ?_
  refine TC.env (E' := [(1, _), (2, _)]) (Sub.cons rfl (Sub.cons rfl (Sub.nil _))) ?_
  refine TC.seq ?_
  refine TC.region ?_
  refine TL.does (some 5) rfl rfl rfl (Does.callF go114 rfl (begin_fn _)) ?_
  rintro _ _ ⟨rfl, rfl⟩
  refine TL.val rfl rfl (Nat.le_of_ble_eq_true rfl) (Val.buildS pl185 ze185 rfl rfl) ?_
  refine TL.does (some 7) rfl rfl rfl (Does.box rfl rfl) ?_
  rintro _ _ ⟨b3, rfl, rfl⟩
  refine TL.val rfl rfl (Nat.le_of_ble_eq_true rfl) (Val.assign rfl) ?_
  refine TL.nil ?_
  refine AtX.then ?_
  refine TC.env (E' := [(1, _), (2, _), (3, _)]) (Sub.cons rfl (Sub.cons rfl (Sub.cons rfl (Sub.nil _)))) ?_
  refine TC.seq ?_
  refine TC.seq ?_
  refine TC.region ?_
  refine TL.val rfl rfl (Nat.le_of_ble_eq_true rfl) (Val.move rfl) ?_
  refine TL.nil ?_
  refine AtX.then ?_
  refine TC.env (E' := [(1, _), (2, _), (3, _), (8, _)]) (Sub.cons rfl (Sub.cons rfl (Sub.cons rfl (Sub.cons rfl (Sub.nil _))))) ?_
  refine TC.block ?_
  refine TC.loop (ι := Nat) (fun i => [(1, .pointer (some ⟨b1, 0, none⟩)), (3, .pointer (some ⟨b3, 0, none⟩)), (8, .int .i64 (i : Nat))]) (fun i => (b3, .cells (newR k i).toArray 185 (0, 0)) :: (b1, .cells #[.int .u64 k.a, .int .u64 k.b] 69 (0, 0)) :: M) (fun i => i ≤ 4) (fun i => 4 - i) 0 ?_ (Sub.cons rfl (Sub.cons rfl (Sub.cons rfl (Sub.nil _)))) (fun _ h => h) ?_
  · exact Nat.zero_le _
  intro i hi
  refine TC.seq ?_
  refine TC.region ?_
  refine TL.val rfl rfl (Nat.le_of_ble_eq_true rfl) (Val.lss rfl rfl) ?_
  refine TL.nil ?_
  refine AtX.then ?_
  refine TC.seq ?_
  first | refine TC.condP rfl (fun c1 => ?_) (fun c1 => ?_) | refine TC.condN rfl (fun c1 => ?_) (fun c1 => ?_) | refine TC.condB rfl (fun c1 => ?_) (fun c1 => ?_) | refine TC.cond rfl (fun c1 => ?_) (fun c1 => ?_)
  · skip
    refine TC.skip ?_
    refine AtX.then ?_
    refine TC.seq ?_
    refine TC.block ?_
    refine TC.seq ?_
    refine TC.region ?_
    refine TL.val rfl rfl (Nat.le_of_ble_eq_true rfl) (Val.move rfl) ?_
    refine TL.val rfl rfl (Nat.le_of_ble_eq_true rfl) (Val.assign rfl) ?_
    refine TL.nil ?_
    refine AtX.then ?_
    have hi4 : i < 4 := by omega
    refine TC.drawG [14] M mixed 15 ?_
    refine TG.tk false 0 1 rfl rfl rfl (Val.move rfl) ?_
    refine TG.tk false 1 3 rfl rfl rfl (Val.move rfl) ?_
    refine TG.tk false 2 7 rfl rfl rfl (Val.nilCheck rfl) ?_
    refine TG.tk false 3 15 rfl rfl rfl (Val.fieldAddr rfl fl185_0 sz182 rfl) ?_
    refine TG.tk false 4 31 rfl rfl rfl (Val.indexAddrA (i := i) (r := i) rfl rfl ar182 sz24 rfl hi4 (by omega)) ?_
    refine TG.tk false 5 63 rfl rfl rfl (Val.load 0 rfl ag24 rfl (v := .int .u64 (wj i)) (by simpa using newR_nth hi4)) ?_
    refine TG.tk false 6 127 rfl rfl rfl (Val.move rfl) ?_
    refine TG.tk false 7 255 rfl rfl rfl (Val.rem rfl rfl (by omega) (r := ((i % 2 : Nat) : Int)) (rem_nat i 2)) ?_
    refine TG.tk false 8 511 rfl rfl rfl (Val.indexAddrA (i := i % 2) (r := i % 2) rfl rfl ar69 sz24 rfl (by omega) (by omega)) ?_
    refine TG.tk false 9 1023 rfl rfl rfl (Val.load 1 rfl ag24 rfl (v := .int .u64 (kk k i)) (by simpa using kk_nth k i)) ?_
    refine TG.tk false 10 2047 rfl rfl rfl (Val.xor rfl rfl (r := xor64 (wj i) (kk k i)) rfl) ?_
    refine TG.tw false 11 4095 rfl rfl rfl (Val.nilCheck rfl) ?_
    refine TG.tw false 12 8191 rfl rfl rfl (Val.fieldAddr rfl fl185_0 sz182 rfl) ?_
    refine TG.tk false 13 16383 rfl rfl rfl (Val.indexAddrA (i := i) (r := i) rfl rfl ar182 sz24 rfl hi4 (by omega)) ?_
    refine TG.one 14 (by kernel_rfl) ?_
    refine TP.dz true 32767 none rfl rfl rfl rfl (Does.store (i := 0) rfl rfl rfl sz24 rfl rfl (by simp [newR]; omega) (newR_splice (k := k) hi4) rfl) ?_
    rintro _ _ ⟨rfl, rfl⟩
    refine roK ?_
    refine TG.done (by kernel_rfl) ?_ _
    refine AtX.blk ?_
    refine AtX.then ?_
    refine TC.region ?_
    refine TL.val rfl rfl (Nat.le_of_ble_eq_true rfl) (Val.add rfl rfl (w_i64 (by omega) (by omega))) ?_
    refine TL.val rfl rfl (Nat.le_of_ble_eq_true rfl) (Val.move rfl) ?_
    refine TL.nil ?_
    refine AtX.round (i + 1) ?_ ?_ (Sub.cons rfl (Sub.cons rfl (Sub.cons rfl (Sub.nil _)))) (fun _ h => h)
    · omega
    · omega
  · skip
    refine TC.exit ?_
    refine AtX.seqX ?_
    refine AtX.seqX ?_
    refine AtX.hit ?_
    refine AtX.then ?_
    refine TC.env (E' := [(3, _)]) (Sub.cons rfl (Sub.nil _)) ?_
    refine TC.seq ?_
    have h4 : i = 4 := by omega
    subst h4
    rw [newR_end]
    refine TC.region ?_
    refine TL.val rfl rfl (Nat.le_of_ble_eq_true rfl) (Val.move rfl) ?_
    refine TL.val rfl rfl (Nat.le_of_ble_eq_true rfl) (Val.assign rfl) ?_
    refine TL.nil ?_
    refine AtX.then ?_
    refine TC.env (E' := [(2, _)]) (Sub.cons rfl (Sub.nil _)) ?_
    refine TC.ret1 (fn := Try.f102) (fun _ _ h => h) rfl (RV.tmp rfl) (M' := hobj b3 (keyW k.a k.b) none 0 0 0 :: M) (fun w h => ro_del 1 rfl w h) ?_
    exact ⟨b3, rfl, rfl⟩

end Go.Proofs.Ytphoapajlcaoeaa
/- walks -/
set_option linter.unusedVariables false
set_option linter.unusedSimpArgs false
set_option maxRecDepth 100000
set_option maxHeartbeats 4000000
namespace Go.Proofs.Ytphoapajlcaoeaa
open Go Go.X
/-- quorumite/sip.Put -/
theorem sipPut_fn (n : Int) (M : Hp) : FnC Try.prog 78 #[.int .u64 n] M (fun v M' => ∃ b c sp, v = .slice (some ⟨b, 0, none⟩) 8 c ∧ 8 + sp.length = c ∧ M' = (b, row 5 (bv (put8 n) ++ sp)) :: M) := by
  refine FnC.intro Try.func78 rfl 19 rfl (by simp) (fun z => ?_)
  refine TC.env (E' := [(0, _)]) (Sub.cons rfl (Sub.nil _)) ?_
  refine TC.seq ?_
  refine TC.region ?_
  refine TL.val rfl rfl (Nat.le_of_ble_eq_true rfl) (Val.assign rfl) ?_
  refine TL.nil ?_
  refine AtX.then ?_
  refine TC.seq ?_
  refine TC.region ?_
  refine TL.val rfl rfl (Nat.le_of_ble_eq_true rfl) (Val.assign rfl) ?_
  refine TL.nil ?_
  refine AtX.then ?_
  refine TC.seq ?_
  refine TC.seq ?_
  refine TC.region ?_
  refine TL.val rfl rfl (Nat.le_of_ble_eq_true rfl) (Val.move rfl) ?_
  refine TL.nil ?_
  refine AtX.then ?_
  refine TC.block ?_
  refine TC.loop (ι := (Nat × Sl)) (fun i => [(0, .int .u64 n), (3, .slice (slA i.2) i.1 (slC i.2)), (5, .int .i64 (i.1 : Nat))]) (fun i => slH i.2 5 (bv (pb n i.1)) ++ M) (fun i => i.1 ≤ 8 ∧ slOk i.2 1 i.1 (bv (pb n i.1))) (fun i => 8 - i.1) (0, none) ?_ (Sub.cons rfl (Sub.cons rfl (Sub.cons rfl (Sub.nil _)))) (fun _ h => h) ?_
  · exact ⟨by omega, slOk_nil 1⟩
  rintro ⟨k, σ⟩ ⟨hk, hok⟩
  dsimp only at hk hok ⊢
  refine TC.seq ?_
  refine TC.region ?_
  refine TL.val rfl rfl (Nat.le_of_ble_eq_true rfl) (Val.lss rfl rfl) ?_
  refine TL.nil ?_
  refine AtX.then ?_
  refine TC.seq ?_
  first | refine TC.condP rfl (fun c1 => ?_) (fun c1 => ?_) | refine TC.condN rfl (fun c1 => ?_) (fun c1 => ?_) | refine TC.condB rfl (fun c1 => ?_) (fun c1 => ?_) | refine TC.cond rfl (fun c1 => ?_) (fun c1 => ?_)
  · skip
    refine TC.skip ?_
    refine AtX.then ?_
    refine TC.seq ?_
    refine TC.block ?_
    refine TC.seq ?_
    refine TC.region ?_
    refine TL.val rfl rfl (Nat.le_of_ble_eq_true rfl) (Val.move rfl) ?_
    refine TL.val rfl rfl (Nat.le_of_ble_eq_true rfl) (Val.assign rfl) ?_
    refine TL.nil ?_
    refine AtX.then ?_
    refine TC.region ?_
    refine TL.val rfl rfl (Nat.le_of_ble_eq_true rfl) (Val.move rfl) ?_
    refine TL.val rfl rfl (Nat.le_of_ble_eq_true rfl) (Val.move rfl) ?_
    refine TL.val rfl rfl (Nat.le_of_ble_eq_true rfl) (Val.move rfl) ?_
    refine TL.val rfl rfl (Nat.le_of_ble_eq_true rfl) (Val.mul rfl rfl (w_i64 (by omega) (by omega))) ?_
    refine TL.val rfl rfl (Nat.le_of_ble_eq_true rfl) (Val.convI rfl iu3 in32 (w_u64 (by omega) (by omega))) ?_
    refine TL.val rfl rfl (Nat.le_of_ble_eq_true rfl) (Val.shr rfl rfl (by omega) (shr_val (by omega))) ?_
    refine TL.val rfl rfl (Nat.le_of_ble_eq_true rfl) (Val.convI rfl iu24 in5 w_b8) ?_
    refine TL.does (some 15) rfl rfl rfl (Does.buildSlice sl37 sz5 ze5 (by decide) (by decide) rfl rfl rfl) ?_
    rintro _ _ ⟨b1, rfl, rfl⟩
    refine TL.does (some 16) rfl rfl rfl (Does.appendS (xs := bv (pb n k)) (ys := bv [byteAt n k]) σ M (ro_tail ro_refl) rfl rfl sl37 sz5 by5 ze5 rfl hok (.inl ⟨_, _, rfl, ⟨5, us37⟩, .some (Rd.get (i := 0) rfl rfl)⟩) rfl (bv_one _) (by omega) (by omega)) ?_
    rintro _ _ ⟨σ1, rfl, hok1, rfl⟩
    refine TL.val rfl rfl (Nat.le_of_ble_eq_true rfl) (Val.assign rfl) ?_
    refine TL.nil ?_
    refine AtX.blk ?_
    refine AtX.then ?_
    refine TC.region ?_
    refine TL.val rfl rfl (Nat.le_of_ble_eq_true rfl) (Val.add rfl rfl (w_i64 (by omega) (by omega))) ?_
    refine TL.val rfl rfl (Nat.le_of_ble_eq_true rfl) (Val.move rfl) ?_
    refine TL.nil ?_
    refine AtX.round (i := (k, σ)) (k + 1, σ1) ?_ ?_ (Sub.cons rfl (Sub.cons rfl (Sub.cons rfl (Sub.nil _)))) (fun w h => by simp only [pb, bv_append]; exact h)
    · exact ⟨by omega, by simp only [pb, bv_append]; exact hok1⟩
    · show 8 - (k + 1) < 8 - k; omega
  · skip
    refine TC.exit ?_
    refine AtX.seqX ?_
    refine AtX.seqX ?_
    refine AtX.hit ?_
    refine AtX.then ?_
    refine TC.env (E' := [(3, _)]) (Sub.cons rfl (Sub.nil _)) ?_
    refine TC.seq ?_
    refine TC.region ?_
    refine TL.val rfl rfl (Nat.le_of_ble_eq_true rfl) (Val.move rfl) ?_
    refine TL.val rfl rfl (Nat.le_of_ble_eq_true rfl) (Val.assign rfl) ?_
    refine TL.nil ?_
    refine AtX.then ?_
    refine TC.env (E' := [(2, _)]) (Sub.cons rfl (Sub.nil _)) ?_
    refine TC.ret1 (fn := Try.f78) (fun _ _ h => h) rfl (RV.tmp rfl) (fun _ h => h) ?_
    have h8 : k = 8 := by omega
    subst h8
    obtain ⟨b, c, sp, rfl, hc⟩ := hok.some (by omega)
    exact ⟨b, c, sp, rfl, by simpa using hc, rfl⟩

/-- quorumite/sip.Get -/
theorem sipGet_fn (l : List UInt8) (A : Option Addr) (n c : Nat) (o : Nat) (M : Hp) (hA : RdS M A (bv l)) (hn : n = l.length) (hl : l.length ≤ 1000) (ho : o + 8 ≤ l.length) : FnC Try.prog 106 #[.slice A n c, .int .i64 o] M (fun v M' => v = .tuple #[.int .u64 (get8 l o : Nat), .int .i64 0] ∧ M = M') := by
  subst hn
  obtain ⟨b, q, rfl, hR⟩ := RdS.get hA (by simp; omega)
  refine FnC.intro Try.func106 rfl 35 rfl (by simp) (fun z => ?_)
  refine TC.env (E' := [(0, _), (1, _)]) (Sub.cons rfl (Sub.cons rfl (Sub.nil _))) ?_
  refine TC.seq ?_
  refine TC.region ?_
  refine TL.val rfl rfl (Nat.le_of_ble_eq_true rfl) (Val.assign rfl) ?_
  refine TL.val rfl rfl (Nat.le_of_ble_eq_true rfl) (Val.assign rfl) ?_
  refine TL.nil ?_
  refine AtX.then ?_
  refine TC.seq ?_
  refine TC.seq ?_
  refine TC.region ?_
  refine TL.val rfl rfl (Nat.le_of_ble_eq_true rfl) (Val.move rfl) ?_
  refine TL.val rfl rfl (Nat.le_of_ble_eq_true rfl) (Val.lss rfl rfl) ?_
  refine TL.val rfl rfl (Nat.le_of_ble_eq_true rfl) (Val.move rfl) ?_
  refine TL.gen (fun g1 hg1 => ?_)
  refine TL.gval rfl rfl (Nat.le_of_ble_eq_true rfl) rfl (Nat.le_of_ble_eq_true rfl) rfl (fun hg => by subst hg; exact (Val.move rfl)) ?_
  refine TL.gval rfl rfl (Nat.le_of_ble_eq_true rfl) rfl (Nat.le_of_ble_eq_true rfl) rfl (fun hg => by subst hg; exact (Val.move rfl)) ?_
  refine TL.gval rfl rfl (Nat.le_of_ble_eq_true rfl) rfl (Nat.le_of_ble_eq_true rfl) rfl (fun hg => by subst hg; exact (Val.lenSl rfl rfl sl37)) ?_
  refine TL.gval rfl rfl (Nat.le_of_ble_eq_true rfl) rfl (Nat.le_of_ble_eq_true rfl) rfl (fun hg => by subst hg; exact (Val.sub rfl rfl (w_i64 (by omega) (by omega)))) ?_
  refine TL.gval rfl rfl (Nat.le_of_ble_eq_true rfl) rfl (Nat.le_of_ble_eq_true rfl) rfl (fun hg => by subst hg; exact (Val.gtr rfl rfl)) ?_
  refine TL.val rfl rfl (Nat.le_of_ble_eq_true rfl) (Val.pickOr rfl rfl rfl) ?_
  refine TL.nil ?_
  refine AtX.then ?_
  refine TC.env (E' := [(0, _), (1, _), (4, _), (5, _), (16, _)]) (Sub.cons rfl (Sub.cons rfl (Sub.cons rfl (Sub.cons rfl (Sub.cons rfl (Sub.nil _)))))) ?_
  first | refine TC.condP rfl (fun c1 => ?_) (fun c1 => ?_) | refine TC.condN rfl (fun c1 => ?_) (fun c1 => ?_) | refine TC.condB rfl (fun c1 => ?_) (fun c1 => ?_) | refine TC.cond rfl (fun c1 => ?_) (fun c1 => ?_)
  · skip
    simp only [Bool.or_eq_true, decide_eq_true_eq] at c1; subst_vars; simp only [decide_eq_true_eq] at c1; omega
  · skip
    refine TC.env (E' := [(0, _), (1, _), (4, _), (5, _)]) (Sub.cons rfl (Sub.cons rfl (Sub.cons rfl (Sub.cons rfl (Sub.nil _))))) ?_
    refine TC.skip ?_
    refine AtX.then ?_
    refine TC.env (E' := [(0, _), (1, _), (4, _), (5, _)]) (Sub.cons rfl (Sub.cons rfl (Sub.cons rfl (Sub.cons rfl (Sub.nil _))))) ?_
    refine TC.seq ?_
    refine TC.region ?_
    refine TL.val rfl rfl (Nat.le_of_ble_eq_true rfl) (Val.assign rfl) ?_
    refine TL.nil ?_
    refine AtX.then ?_
    refine TC.env (E' := [(0, _), (1, _), (4, _), (5, _), (6, _)]) (Sub.cons rfl (Sub.cons rfl (Sub.cons rfl (Sub.cons rfl (Sub.cons rfl (Sub.nil _)))))) ?_
    refine TC.seq ?_
    refine TC.seq ?_
    refine TC.region ?_
    refine TL.val rfl rfl (Nat.le_of_ble_eq_true rfl) (Val.move rfl) ?_
    refine TL.nil ?_
    refine AtX.then ?_
    refine TC.env (E' := [(0, _), (1, _), (4, _), (5, _), (6, _), (17, _)]) (Sub.cons rfl (Sub.cons rfl (Sub.cons rfl (Sub.cons rfl (Sub.cons rfl (Sub.cons rfl (Sub.nil _))))))) ?_
    refine TC.block ?_
    refine TC.loop (ι := Nat) (fun k => [(0, .slice (some ⟨b, q, none⟩) l.length c), (1, .int .i64 o), (6, .int .u64 (getTo l o k : Nat)), (17, .int .i64 (k : Nat))]) (fun _ => M) (fun k => k ≤ 8) (fun k => 8 - k) 0 ?_ (Sub.cons rfl (Sub.cons rfl (Sub.cons rfl (Sub.cons rfl (Sub.nil _))))) (fun _ h => h) ?_
    · exact Nat.zero_le _
    intro k hk
    refine TC.seq ?_
    refine TC.region ?_
    refine TL.val rfl rfl (Nat.le_of_ble_eq_true rfl) (Val.lss rfl rfl) ?_
    refine TL.nil ?_
    refine AtX.then ?_
    refine TC.seq ?_
    first | refine TC.condP rfl (fun c2 => ?_) (fun c2 => ?_) | refine TC.condN rfl (fun c2 => ?_) (fun c2 => ?_) | refine TC.condB rfl (fun c2 => ?_) (fun c2 => ?_) | refine TC.cond rfl (fun c2 => ?_) (fun c2 => ?_)
    · skip
      refine TC.skip ?_
      refine AtX.then ?_
      refine TC.seq ?_
      refine TC.block ?_
      refine TC.seq ?_
      refine TC.region ?_
      refine TL.val rfl rfl (Nat.le_of_ble_eq_true rfl) (Val.move rfl) ?_
      refine TL.val rfl rfl (Nat.le_of_ble_eq_true rfl) (Val.assign rfl) ?_
      refine TL.nil ?_
      refine AtX.then ?_
      have hlt : k < 8 := by omega
      have hB := getTo_lt l o k
      have hc : (l.getD (o + k) 0).toNat < 256 := UInt8.toNat_lt _
      refine TC.region ?_
      refine TL.val rfl rfl (Nat.le_of_ble_eq_true rfl) (Val.move rfl) ?_
      refine TL.val rfl rfl (Nat.le_of_ble_eq_true rfl) (Val.move rfl) ?_
      refine TL.val rfl rfl (Nat.le_of_ble_eq_true rfl) (Val.move rfl) ?_
      refine TL.val rfl rfl (Nat.le_of_ble_eq_true rfl) (Val.move rfl) ?_
      refine TL.val rfl rfl (Nat.le_of_ble_eq_true rfl) (Val.add rfl rfl (w_i64 (by omega) (by omega))) ?_
      refine TL.val rfl rfl (Nat.le_of_ble_eq_true rfl) (Val.indexAddr (i := o + k) rfl rfl sl37 sz5 (by push_cast; rfl) (by omega) rfl) ?_
      refine TL.val rfl rfl (Nat.le_of_ble_eq_true rfl) (Val.loadB (o + k) rfl ag5 hR (by simp) (by omega)) ?_
      refine TL.val rfl rfl (Nat.le_of_ble_eq_true rfl) (Val.convI rfl iu5 in24 (w_u64 (by omega) (by omega))) ?_
      refine TL.val rfl rfl (Nat.le_of_ble_eq_true rfl) (Val.move rfl) ?_
      refine TL.val rfl rfl (Nat.le_of_ble_eq_true rfl) (Val.mul rfl rfl (w_i64 (by omega) (by omega))) ?_
      refine TL.val rfl rfl (Nat.le_of_ble_eq_true rfl) (Val.convI rfl iu3 in32 (w_u64 (by omega) (by omega))) ?_
      refine TL.val rfl rfl (Nat.le_of_ble_eq_true rfl) (Val.shl rfl rfl (by omega) (shl_val hlt hc)) ?_
      refine TL.val rfl rfl (Nat.le_of_ble_eq_true rfl) (Val.or rfl rfl (or_add hlt hB hc)) ?_
      refine TL.val rfl rfl (Nat.le_of_ble_eq_true rfl) (Val.assign rfl) ?_
      refine TL.nil ?_
      refine AtX.blk ?_
      refine AtX.then ?_
      refine TC.region ?_
      refine TL.val rfl rfl (Nat.le_of_ble_eq_true rfl) (Val.add rfl rfl (w_i64 (by omega) (by omega))) ?_
      refine TL.val rfl rfl (Nat.le_of_ble_eq_true rfl) (Val.move rfl) ?_
      refine TL.nil ?_
      refine AtX.round (k + 1) ?_ ?_ (Sub.cons rfl (Sub.cons rfl (Sub.cons rfl (Sub.cons rfl (Sub.nil _))))) (fun _ h => h)
      · omega
      · omega
    · skip
      refine TC.exit ?_
      refine AtX.seqX ?_
      refine AtX.seqX ?_
      refine AtX.hit ?_
      refine AtX.then ?_
      refine TC.env (E' := [(6, _)]) (Sub.cons rfl (Sub.nil _)) ?_
      refine TC.seq ?_
      refine TC.region ?_
      refine TL.val rfl rfl (Nat.le_of_ble_eq_true rfl) (Val.move rfl) ?_
      refine TL.val rfl rfl (Nat.le_of_ble_eq_true rfl) (Val.assign rfl) ?_
      refine TL.val rfl rfl (Nat.le_of_ble_eq_true rfl) (Val.assign rfl) ?_
      refine TL.nil ?_
      refine AtX.then ?_
      refine TC.env (E' := [(4, _), (5, _)]) (Sub.cons rfl (Sub.cons rfl (Sub.nil _))) ?_
      refine TC.ret2 (fn := Try.f106) (fun _ _ h => h) rfl (RV.tmp rfl) (RV.tmp rfl) (fun _ h => h) ?_
      refine ⟨?_, rfl⟩
      have : k = 8 := by omega
      subst this; rfl

/-- (*quorumite/sip.Hash).Write -/
theorem Write_fn (b : Nat) (w : W4) (l : List UInt8) (A : Option Addr) (n c : Nat) (M : Hp) (hA : RdS M A (bv l)) (hn : n = l.length) (hl : l.length ≤ 1000) : FnC Try.prog 103 #[.pointer (some ⟨b, 0, none⟩), .slice A n c] (hobj b w none 0 0 0 :: M) (fun v M' => ∃ σ A' cp, v = .int .i64 n ∧ RdS (slH σ 5 (bv l) ++ M) A' (bv (l.drop (8 * (l.length / 8)))) ∧ M' = hobj b (absorb l (l.length / 8) w) A' (l.length - 8 * (l.length / 8)) cp l.length :: (slH σ 5 (bv l) ++ M)) := by
  subst hn
  refine FnC.intro Try.func103 rfl 54 rfl (by simp) (fun z => ?_)
  refine TC.env (E' := [(0, _), (1, _)]) (Sub.cons rfl (Sub.cons rfl (Sub.nil _))) ?_
  refine TC.seq ?_
  refine TC.region ?_
  refine TL.val rfl rfl (Nat.le_of_ble_eq_true rfl) (Val.assign rfl) ?_
  refine TL.nil ?_
  refine AtX.then ?_
  refine TC.seq ?_
  refine TC.seq ?_
  refine TC.region ?_
  refine TL.val rfl rfl (Nat.le_of_ble_eq_true rfl) (Val.move rfl) ?_
  refine TL.val rfl rfl (Nat.le_of_ble_eq_true rfl) (Val.eqlNil rfl rfl pt165) ?_
  refine TL.nil ?_
  refine AtX.then ?_
  refine TC.env (E' := [(0, _), (1, _), (4, _), (8, _)]) (Sub.cons rfl (Sub.cons rfl (Sub.cons rfl (Sub.cons rfl (Sub.nil _))))) ?_
  first | refine TC.condP rfl (fun c1 => ?_) (fun c1 => ?_) | refine TC.condN rfl (fun c1 => ?_) (fun c1 => ?_) | refine TC.condB rfl (fun c1 => ?_) (fun c1 => ?_) | refine TC.cond rfl (fun c1 => ?_) (fun c1 => ?_)
  · skip
    cases c1
  · skip
    refine TC.env (E' := [(0, _), (1, _), (4, _)]) (Sub.cons rfl (Sub.cons rfl (Sub.cons rfl (Sub.nil _)))) ?_
    refine TC.skip ?_
    refine AtX.then ?_
    refine TC.env (E' := [(0, _), (1, _), (4, _)]) (Sub.cons rfl (Sub.cons rfl (Sub.cons rfl (Sub.nil _)))) ?_
    refine TC.seq ?_
    refine TC.region ?_
    refine TL.val rfl rfl (Nat.le_of_ble_eq_true rfl) (Val.move rfl) ?_
    refine TL.val rfl rfl (Nat.le_of_ble_eq_true rfl) (Val.nilCheck rfl) ?_
    refine TL.val rfl rfl (Nat.le_of_ble_eq_true rfl) (Val.fieldAddr rfl fl185_2 sz3 rfl) ?_
    refine TL.val rfl rfl (Nat.le_of_ble_eq_true rfl) (Val.load 0 rfl ag3 rfl rfl) ?_
    refine TL.val rfl rfl (Nat.le_of_ble_eq_true rfl) (Val.move rfl) ?_
    refine TL.val rfl rfl (Nat.le_of_ble_eq_true rfl) (Val.lenSl rfl rfl sl37) ?_
    refine TL.val rfl rfl (Nat.le_of_ble_eq_true rfl) (Val.add rfl rfl (r := ((l.length : Nat) : Int)) (by rw [w_i64 (by omega) (by omega)]; omega)) ?_
    refine TL.val rfl rfl (Nat.le_of_ble_eq_true rfl) (Val.nilCheck rfl) ?_
    refine TL.val rfl rfl (Nat.le_of_ble_eq_true rfl) (Val.fieldAddr rfl fl185_2 sz3 rfl) ?_
    refine TL.does none rfl rfl rfl (Does.store (i := 0) rfl rfl rfl sz3 rfl rfl (by first | exact Nat.le_of_ble_eq_true rfl | decide | omega) rfl rfl) ?_
    rintro _ _ ⟨rfl, rfl⟩
    refine TL.nil ?_
    refine AtX.then ?_
    refine TC.env (E' := [(0, _), (1, _), (4, _)]) (Sub.cons rfl (Sub.cons rfl (Sub.cons rfl (Sub.nil _)))) ?_
    refine TC.seq ?_
    refine TC.region ?_
    refine TL.val rfl rfl (Nat.le_of_ble_eq_true rfl) (Val.move rfl) ?_
    refine TL.val rfl rfl (Nat.le_of_ble_eq_true rfl) (Val.move rfl) ?_
    refine TL.val rfl rfl (Nat.le_of_ble_eq_true rfl) (Val.nilCheck rfl) ?_
    refine TL.val rfl rfl (Nat.le_of_ble_eq_true rfl) (Val.fieldAddr rfl fl185_1 sz37 rfl) ?_
    refine TL.val rfl rfl (Nat.le_of_ble_eq_true rfl) (Val.load 0 rfl ag37 rfl rfl) ?_
    refine TL.val rfl rfl (Nat.le_of_ble_eq_true rfl) (Val.move rfl) ?_
    refine TL.does (some 24) rfl rfl rfl (Does.appendS (xs := []) (ys := bv l) none (hobj b w none 0 0 l.length :: M) ro_refl rfl rfl sl37 sz5 by5 ze5 rfl (slOk_nil 1) (srcB us37 (hA.cons _)) (by simp) (bv_one _) (by omega) (by omega)) ?_
    rintro _ _ ⟨σ, rfl, hok, rfl⟩
    rw [List.nil_append] at hok ⊢
    rw [Nat.zero_add] at hok ⊢
    refine TL.heap (M' := hobj b w none 0 0 l.length :: (slH σ 5 (bv l) ++ M)) ro_mid ?_
    have hcap := hok.cap
    refine TL.val rfl rfl (Nat.le_of_ble_eq_true rfl) (Val.nilCheck rfl) ?_
    refine TL.val rfl rfl (Nat.le_of_ble_eq_true rfl) (Val.fieldAddr rfl fl185_1 sz37 rfl) ?_
    refine TL.does none rfl rfl rfl (Does.store (i := 0) rfl rfl rfl sz37 rfl rfl (by first | exact Nat.le_of_ble_eq_true rfl | decide | omega) rfl rfl) ?_
    rintro _ _ ⟨rfl, rfl⟩
    refine TL.nil ?_
    refine AtX.then ?_
    refine TC.env (E' := [(0, _), (1, _), (4, _)]) (Sub.cons rfl (Sub.cons rfl (Sub.cons rfl (Sub.nil _)))) ?_
    refine TC.seq ?_
    refine TC.block ?_
    refine TC.loop (ι := (Nat × Option Addr)) (fun i => [(0, .pointer (some ⟨b, 0, none⟩)), (1, .slice A l.length c)]) (fun i => hobj b (absorb l i.1 w) i.2 (l.length - 8 * i.1) (slC σ - 8 * i.1) l.length :: (slH σ 5 (bv l) ++ M)) (fun i => 8 * i.1 ≤ l.length ∧ RdS (slH σ 5 (bv l) ++ M) i.2 (bv (l.drop (8 * i.1)))) (fun i => l.length - 8 * i.1) (0, slA σ) ?_ (Sub.cons rfl (Sub.cons rfl (Sub.nil _))) (fun _ h => h) ?_
    · exact ⟨by omega, slRd hok (fun x h => List.mem_append_left _ h)⟩
    rintro ⟨k, A1⟩ ⟨hk, hR⟩
    dsimp only at hk hR ⊢
    refine TC.seq ?_
    refine TC.seq ?_
    refine TC.region ?_
    refine TL.val rfl rfl (Nat.le_of_ble_eq_true rfl) (Val.move rfl) ?_
    refine TL.val rfl rfl (Nat.le_of_ble_eq_true rfl) (Val.nilCheck rfl) ?_
    refine TL.val rfl rfl (Nat.le_of_ble_eq_true rfl) (Val.fieldAddr rfl fl185_1 sz37 rfl) ?_
    refine TL.val rfl rfl (Nat.le_of_ble_eq_true rfl) (Val.load 0 rfl ag37 rfl rfl) ?_
    refine TL.val rfl rfl (Nat.le_of_ble_eq_true rfl) (Val.lenSl rfl rfl sl37) ?_
    refine TL.val rfl rfl (Nat.le_of_ble_eq_true rfl) (Val.geq rfl rfl) ?_
    refine TL.nil ?_
    refine AtX.then ?_
    first | refine TC.condP rfl (fun c2 => ?_) (fun c2 => ?_) | refine TC.condN rfl (fun c2 => ?_) (fun c2 => ?_) | refine TC.condB rfl (fun c2 => ?_) (fun c2 => ?_) | refine TC.cond rfl (fun c2 => ?_) (fun c2 => ?_)
    · skip
      refine TC.skip ?_
      refine AtX.then ?_
      refine TC.block ?_
      refine TC.seq ?_
      refine TC.region ?_
      refine TL.val rfl rfl (Nat.le_of_ble_eq_true rfl) (Val.move rfl) ?_
      refine TL.val rfl rfl (Nat.le_of_ble_eq_true rfl) (Val.nilCheck rfl) ?_
      refine TL.val rfl rfl (Nat.le_of_ble_eq_true rfl) (Val.fieldAddr rfl fl185_1 sz37 rfl) ?_
      refine TL.val rfl rfl (Nat.le_of_ble_eq_true rfl) (Val.load 0 rfl ag37 rfl rfl) ?_
      refine TL.does (some 38) rfl rfl rfl (Does.callF go106 rfl (sipGet_fn (l.drop (8 * k)) _ _ _ 0 _ (hR.cons _) (by rw [List.length_drop]) (by rw [List.length_drop]; omega) (by rw [List.length_drop]; omega))) ?_
      rintro _ _ ⟨rfl, rfl⟩
      rw [get8_drop]
      refine TL.val rfl rfl (Nat.le_of_ble_eq_true rfl) (Val.move rfl) ?_
      refine TL.val rfl rfl (Nat.le_of_ble_eq_true rfl) (Val.extract rfl rfl) ?_
      refine TL.val rfl rfl (Nat.le_of_ble_eq_true rfl) (Val.extract rfl rfl) ?_
      refine TL.val rfl rfl (Nat.le_of_ble_eq_true rfl) (Val.assign rfl) ?_
      refine TL.val rfl rfl (Nat.le_of_ble_eq_true rfl) (Val.assign rfl) ?_
      refine TL.nil ?_
      refine AtX.then ?_
      refine TC.env (E' := [(0, _), (1, _), (5, _), (27, _), (28, _), (29, _), (30, _), (31, _), (32, _), (33, _), (34, _), (35, _), (36, _), (37, _), (38, _), (39, _), (40, _)]) (Sub.cons rfl (Sub.cons rfl (Sub.cons rfl (Sub.cons rfl (Sub.cons rfl (Sub.cons rfl (Sub.cons rfl (Sub.cons rfl (Sub.cons rfl (Sub.cons rfl (Sub.cons rfl (Sub.cons rfl (Sub.cons rfl (Sub.cons rfl (Sub.cons rfl (Sub.cons rfl (Sub.cons rfl (Sub.nil _)))))))))))))))))) ?_
      refine TC.seq ?_
      refine TC.region ?_
      refine TL.val rfl rfl (Nat.le_of_ble_eq_true rfl) (Val.move rfl) ?_
      refine TL.val rfl rfl (Nat.le_of_ble_eq_true rfl) (Val.move rfl) ?_
      refine TL.does (some 43) rfl rfl rfl (Does.callF go115 rfl (take_fn b (absorb l k w) _ _ _ _ _ _)) ?_
      rintro _ _ ⟨rfl, rfl⟩
      refine TL.nil ?_
      refine AtX.then ?_
      refine TC.env (E' := [(0, _), (1, _), (5, _), (27, _), (28, _), (29, _), (30, _), (31, _), (32, _), (33, _), (34, _), (35, _), (36, _), (37, _), (38, _), (39, _), (40, _), (41, _), (42, _)]) (Sub.cons rfl (Sub.cons rfl (Sub.cons rfl (Sub.cons rfl (Sub.cons rfl (Sub.cons rfl (Sub.cons rfl (Sub.cons rfl (Sub.cons rfl (Sub.cons rfl (Sub.cons rfl (Sub.cons rfl (Sub.cons rfl (Sub.cons rfl (Sub.cons rfl (Sub.cons rfl (Sub.cons rfl (Sub.cons rfl (Sub.cons rfl (Sub.nil _)))))))))))))))))))) ?_
      refine TC.region ?_
      refine TL.val rfl rfl (Nat.le_of_ble_eq_true rfl) (Val.move rfl) ?_
      refine TL.val rfl rfl (Nat.le_of_ble_eq_true rfl) (Val.move rfl) ?_
      refine TL.val rfl rfl (Nat.le_of_ble_eq_true rfl) (Val.nilCheck rfl) ?_
      refine TL.val rfl rfl (Nat.le_of_ble_eq_true rfl) (Val.fieldAddr rfl fl185_1 sz37 rfl) ?_
      refine TL.val rfl rfl (Nat.le_of_ble_eq_true rfl) (Val.load 0 rfl ag37 rfl rfl) ?_
      refine TL.val rfl rfl (Nat.le_of_ble_eq_true rfl) (Val.slice (i := 8) (j := l.length - 8 * k) (q := if slC σ - 8 * k = 8 then A1 else A1.map (·.add (8 * 1))) rfl sl37 sz5 rfl rfl rfl rfl (by omega) (by omega) rfl) ?_
      refine TL.val rfl rfl (Nat.le_of_ble_eq_true rfl) (Val.nilCheck rfl) ?_
      refine TL.val rfl rfl (Nat.le_of_ble_eq_true rfl) (Val.fieldAddr rfl fl185_1 sz37 rfl) ?_
      refine TL.does none rfl rfl rfl (Does.store (i := 0) rfl rfl rfl sz37 rfl rfl (by first | exact Nat.le_of_ble_eq_true rfl | decide | omega) rfl rfl) ?_
      rintro _ _ ⟨rfl, rfl⟩
      refine TL.nil ?_
      refine AtX.blk ?_
      refine AtX.round (i := (k, A1)) (k + 1, if slC σ - 8 * k = 8 then A1 else A1.map (·.add (8 * 1))) ?_ ?_ (Sub.cons rfl (Sub.cons rfl (Sub.nil _))) (fun w h => by simp only [Nat.mul_add_one, Nat.sub_add_eq]; exact h)
      · exact ⟨by omega, by rw [← drop_8]; exact rdS_drop8 hR (by rw [List.length_drop]; omega) (by rw [List.length_drop]; omega)⟩
      · show l.length - 8 * (k + 1) < l.length - 8 * k; omega
    · skip
      refine TC.exit ?_
      refine AtX.seqX ?_
      refine AtX.seqX ?_
      refine AtX.hit ?_
      refine AtX.then ?_
      refine TC.env (E' := [(1, _)]) (Sub.cons rfl (Sub.nil _)) ?_
      refine TC.seq ?_
      refine TC.region ?_
      refine TL.val rfl rfl (Nat.le_of_ble_eq_true rfl) (Val.move rfl) ?_
      refine TL.val rfl rfl (Nat.le_of_ble_eq_true rfl) (Val.lenSl rfl rfl sl37) ?_
      refine TL.val rfl rfl (Nat.le_of_ble_eq_true rfl) (Val.assign rfl) ?_
      refine TL.nil ?_
      refine AtX.then ?_
      refine TC.env (E' := [(4, _)]) (Sub.cons rfl (Sub.nil _)) ?_
      refine TC.ret1 (fn := Try.f103) (fun _ _ h => h) rfl (RV.tmp rfl) (fun _ h => h) ?_
      have hk8 : k = l.length / 8 := by omega
      subst hk8
      exact ⟨σ, A1, _, rfl, hR, rfl⟩

/-- (*quorumite/sip.Hash).Sum -/
theorem HSum_fn (b : Nat) (w : W4) (d : List UInt8) (A : Option Addr) (n c : Nat) (k : Int) (M : Hp) (hA : RdS M A (bv d)) (hn : n = d.length) (hd : d.length ≤ 7) : FnC Try.prog 104 #[.pointer (some ⟨b, 0, none⟩)] (hobj b w A n c k :: M) (fun v M' => v = .int .u64 (endW (takeW (get8 (d ++ List.replicate (7 - d.length) 0 ++ [b8 k]) 0 : Nat) w)) ∧ hobj b w A n c k :: M = M') := by
  subst hn
  obtain ⟨E0, hE0⟩ : ∃ E0, E0 = d ++ List.replicate (7 - d.length) 0 ++ [Go.X.b8 k] := ⟨_, rfl⟩
  have hEl : E0.length = 8 := by rw [hE0]; simp; omega
  rw [← hE0]
  refine FnC.intro Try.func104 rfl 62 rfl (by simp) (fun z => ?_)
  refine TC.env (E' := [(0, _)]) (Sub.cons rfl (Sub.nil _)) ?_
  refine TC.seq ?_
  refine TC.region ?_
  refine TL.val rfl rfl (Nat.le_of_ble_eq_true rfl) (Val.assign rfl) ?_
  refine TL.nil ?_
  refine AtX.then ?_
  refine TC.seq ?_
  refine TC.seq ?_
  refine TC.region ?_
  refine TL.val rfl rfl (Nat.le_of_ble_eq_true rfl) (Val.move rfl) ?_
  refine TL.val rfl rfl (Nat.le_of_ble_eq_true rfl) (Val.eqlNil rfl rfl pt165) ?_
  refine TL.nil ?_
  refine AtX.then ?_
  refine TC.env (E' := [(0, _), (2, _), (8, _)]) (Sub.cons rfl (Sub.cons rfl (Sub.cons rfl (Sub.nil _)))) ?_
  first | refine TC.condP rfl (fun c1 => ?_) (fun c1 => ?_) | refine TC.condN rfl (fun c1 => ?_) (fun c1 => ?_) | refine TC.condB rfl (fun c1 => ?_) (fun c1 => ?_) | refine TC.cond rfl (fun c1 => ?_) (fun c1 => ?_)
  · skip
    cases c1
  · skip
    refine TC.env (E' := [(0, _), (2, _)]) (Sub.cons rfl (Sub.cons rfl (Sub.nil _))) ?_
    refine TC.skip ?_
    refine AtX.then ?_
    refine TC.env (E' := [(0, _), (2, _)]) (Sub.cons rfl (Sub.cons rfl (Sub.nil _))) ?_
    refine TC.seq ?_
    refine TC.region ?_
    refine TL.val rfl rfl (Nat.le_of_ble_eq_true rfl) (Val.move rfl) ?_
    refine TL.val rfl rfl (Nat.le_of_ble_eq_true rfl) (Val.nilCheck rfl) ?_
    refine TL.val rfl rfl (Nat.le_of_ble_eq_true rfl) (Val.fieldAddr rfl fl185_0 sz182 rfl) ?_
    refine TL.val rfl rfl (Nat.le_of_ble_eq_true rfl) (Val.loadAgg 0 rfl ag182 sz182 rfl rfl rfl) ?_
    refine TL.val rfl rfl (Nat.le_of_ble_eq_true rfl) (Val.buildS pl185 ze185 rfl rfl) ?_
    refine TL.does (some 3) rfl rfl rfl (Does.alloc ze185 rfl) ?_
    rintro _ _ ⟨b1, rfl, rfl⟩
    refine TL.does none rfl rfl rfl (Does.store (i := 0) rfl rfl rfl sz185 rfl rfl (by first | exact Nat.le_of_ble_eq_true rfl | decide | omega) rfl rfl) ?_
    rintro _ _ ⟨rfl, rfl⟩
    refine TL.nil ?_
    refine AtX.then ?_
    refine TC.env (E' := [(0, _), (2, _), (3, _)]) (Sub.cons rfl (Sub.cons rfl (Sub.cons rfl (Sub.nil _)))) ?_
    refine TC.seq ?_
    refine TC.drawLM mixed 13 ?_
    refine TA.tk 0 1 rfl rfl rfl (Val.move rfl) ?_
    refine TA.tk 1 3 rfl rfl rfl (Val.nilCheck rfl) ?_
    refine TA.tk 2 7 rfl rfl rfl (Val.fieldAddr rfl fl185_1 sz37 rfl) ?_
    refine TA.tk 3 15 rfl rfl rfl (Val.load 1 rfl ag37 rfl rfl) ?_
    refine TA.tk 5 47 rfl rfl rfl (Val.move rfl) ?_
    refine TA.tk 6 111 rfl rfl rfl (Val.nilCheck rfl) ?_
    refine TA.tk 7 239 rfl rfl rfl (Val.fieldAddr rfl fl185_1 sz37 rfl) ?_
    refine TA.tk 8 495 rfl rfl rfl (Val.load 1 rfl ag37 rfl rfl) ?_
    refine TA.tk 9 1007 rfl rfl rfl (Val.lenSl rfl rfl sl37) ?_
    refine TA.tk 10 2031 rfl rfl rfl (Val.sub rfl rfl (r := ((7 - d.length : Nat) : Int)) (by rw [w_i64 (by omega) (by omega)]; omega)) ?_
    refine TA.one 4 (by kernel_rfl) ?_
    refine TO.dz 2047 (some 18) rfl rfl rfl rfl (Does.appendS (xs := []) (ys := bv d) none (hobj b1 w none 0 0 0 :: hobj b w A d.length c k :: M) ro_refl rfl rfl sl37 sz5 by5 ze5 rfl (slOk_nil 1) (srcB us37 ((hA.cons _).cons _)) (by simp) (bv_one _) (by omega) (by omega)) ?_
    rintro _ _ ⟨σ, rfl, hok, rfl⟩
    rw [List.nil_append] at hok ⊢
    rw [Nat.zero_add d.length] at hok ⊢
    refine roK ?_
    refine TA.one 11 (by kernel_rfl) ?_
    refine TO.dz 4095 (some 25) rfl rfl rfl rfl (Does.appendS (xs := bv d) (ys := bv (List.replicate (7 - d.length) 0)) σ (hobj b1 w none 0 0 0 :: hobj b w A d.length c k :: M) ro_refl rfl rfl sl37 sz5 by5 ze5 rfl hok (srcZ ui3 (by omega)) (by simp) (bv_one _) (by omega) (by omega)) ?_
    rintro _ _ ⟨σ2, rfl, hok2, rfl⟩
    rw [← bv_append] at hok2 ⊢
    have e7 : d.length + (7 - d.length) = 7 := by omega
    rw [e7] at hok2 ⊢
    refine roK ?_
    refine TA.tk 12 8191 rfl rfl rfl (Val.assign rfl) ?_
    refine TA.done (by kernel_rfl) ?_
    refine AtX.then ?_
    refine TC.env (E' := [(0, _), (2, _), (3, _), (4, _)]) (Sub.cons rfl (Sub.cons rfl (Sub.cons rfl (Sub.cons rfl (Sub.nil _))))) ?_
    refine TC.seq ?_
    refine TC.heap (M' := hobj b1 w none 0 0 0 :: hobj b w A d.length c k :: (slH σ2 5 (bv (d ++ List.replicate (7 - d.length) 0)) ++ M)) ro_mid2 ?_
    refine TC.region ?_
    refine TL.val rfl rfl (Nat.le_of_ble_eq_true rfl) (Val.move rfl) ?_
    refine TL.val rfl rfl (Nat.le_of_ble_eq_true rfl) (Val.move rfl) ?_
    refine TL.val rfl rfl (Nat.le_of_ble_eq_true rfl) (Val.nilCheck rfl) ?_
    refine TL.val rfl rfl (Nat.le_of_ble_eq_true rfl) (Val.fieldAddr rfl fl185_2 sz3 rfl) ?_
    refine TL.val rfl rfl (Nat.le_of_ble_eq_true rfl) (Val.load 1 rfl ag3 rfl rfl) ?_
    refine TL.val rfl rfl (Nat.le_of_ble_eq_true rfl) (Val.convI rfl iu3 in5 w_b8) ?_
    refine TL.does (some 33) rfl rfl rfl (Does.buildSlice sl37 sz5 ze5 (by decide) (by decide) rfl rfl rfl) ?_
    rintro _ _ ⟨b2, rfl, rfl⟩
    refine TL.does (some 34) rfl rfl rfl (Does.appendS (xs := bv (d ++ List.replicate (7 - d.length) 0)) (ys := bv [Go.X.b8 k]) σ2 (hobj b1 w none 0 0 0 :: hobj b w A d.length c k :: M) (ro_tail ro_dim2) rfl rfl sl37 sz5 by5 ze5 rfl hok2 (.inl ⟨_, _, rfl, ⟨5, us37⟩, .some (Rd.get (i := 0) rfl rfl)⟩) rfl (bv_one _) (by omega) (by omega)) ?_
    rintro _ _ ⟨σ3, rfl, hok3, rfl⟩
    rw [← bv_append, ← hE0] at hok3 ⊢
    refine TL.does (some 35) rfl rfl rfl (Does.callF go106 rfl (sipGet_fn E0 _ _ _ 0 _ (slRd hok3 (fun x h => List.mem_append_left _ h)) (by rw [hEl]) (by omega) (by omega))) ?_
    rintro _ _ ⟨rfl, rfl⟩
    generalize ((get8 E0 0 : Nat) : Int) = m
    refine TL.val rfl rfl (Nat.le_of_ble_eq_true rfl) (Val.move rfl) ?_
    refine TL.val rfl rfl (Nat.le_of_ble_eq_true rfl) (Val.extract rfl rfl) ?_
    refine TL.val rfl rfl (Nat.le_of_ble_eq_true rfl) (Val.extract rfl rfl) ?_
    refine TL.val rfl rfl (Nat.le_of_ble_eq_true rfl) (Val.assign rfl) ?_
    refine TL.val rfl rfl (Nat.le_of_ble_eq_true rfl) (Val.assign rfl) ?_
    refine TL.nil ?_
    refine AtX.then ?_
    refine TC.env (E' := [(2, _), (3, _), (5, _)]) (Sub.cons rfl (Sub.cons rfl (Sub.cons rfl (Sub.nil _)))) ?_
    refine TC.seq ?_
    refine TC.heap (M' := hobj b1 w none 0 0 0 :: hobj b w A d.length c k :: M) (ro_app ro_refl) ?_
    refine TC.region ?_
    refine TL.val rfl rfl (Nat.le_of_ble_eq_true rfl) (Val.move rfl) ?_
    refine TL.does (some 39) rfl rfl rfl (Does.callF go115 rfl (take_fn b1 w none 0 0 0 _ _)) ?_
    rintro _ _ ⟨rfl, rfl⟩
    generalize hw2 : takeW m w = w2
    refine TL.nil ?_
    refine AtX.then ?_
    refine TC.env (E' := [(2, _), (3, _)]) (Sub.cons rfl (Sub.cons rfl (Sub.nil _))) ?_
    refine TC.seq ?_
    refine TC.region ?_
    refine TL.val rfl rfl (Nat.le_of_ble_eq_true rfl) (Val.fieldAddr rfl fl185_0 sz182 rfl) ?_
    refine TL.val rfl rfl (Nat.le_of_ble_eq_true rfl) (Val.indexAddrA (i := 2) rfl rfl ar182 sz24 rfl (by first | decide | omega) rfl) ?_
    refine TL.val rfl rfl (Nat.le_of_ble_eq_true rfl) (Val.load 0 rfl ag24 rfl rfl) ?_
    refine TL.val rfl rfl (Nat.le_of_ble_eq_true rfl) (Val.xor rfl rfl rfl) ?_
    refine TL.val rfl rfl (Nat.le_of_ble_eq_true rfl) (Val.fieldAddr rfl fl185_0 sz182 rfl) ?_
    refine TL.val rfl rfl (Nat.le_of_ble_eq_true rfl) (Val.indexAddrA (i := 2) rfl rfl ar182 sz24 rfl (by first | decide | omega) rfl) ?_
    refine TL.does none rfl rfl rfl (Does.store (i := 0) rfl rfl rfl sz24 rfl rfl (by first | exact Nat.le_of_ble_eq_true rfl | decide | omega) rfl rfl) ?_
    rintro _ _ ⟨rfl, rfl⟩
    refine TL.nil ?_
    refine AtX.then ?_
    refine TC.env (E' := [(2, _), (3, _)]) (Sub.cons rfl (Sub.cons rfl (Sub.nil _))) ?_
    refine TC.seq ?_
    refine TC.region ?_
    refine TL.does (some 46) rfl rfl rfl (Does.callF go116 rfl (turn_fn b1 ⟨w2.a, w2.b, xor64 w2.c 255, w2.d⟩ none 0 0 0 4 _ (by decide))) ?_
    rintro _ _ ⟨rfl, rfl⟩
    generalize hv : rounds 4 _ = v
    refine TL.nil ?_
    refine AtX.then ?_
    refine TC.env (E' := [(2, _), (3, _)]) (Sub.cons rfl (Sub.cons rfl (Sub.nil _))) ?_
    refine TC.seq ?_
    refine TC.region ?_
    refine TL.val rfl rfl (Nat.le_of_ble_eq_true rfl) (Val.fieldAddr rfl fl185_0 sz182 rfl) ?_
    refine TL.val rfl rfl (Nat.le_of_ble_eq_true rfl) (Val.indexAddrA (i := 0) rfl rfl ar182 sz24 rfl (by first | decide | omega) rfl) ?_
    refine TL.val rfl rfl (Nat.le_of_ble_eq_true rfl) (Val.load 0 rfl ag24 rfl rfl) ?_
    refine TL.val rfl rfl (Nat.le_of_ble_eq_true rfl) (Val.fieldAddr rfl fl185_0 sz182 rfl) ?_
    refine TL.val rfl rfl (Nat.le_of_ble_eq_true rfl) (Val.indexAddrA (i := 1) rfl rfl ar182 sz24 rfl (by first | decide | omega) rfl) ?_
    refine TL.val rfl rfl (Nat.le_of_ble_eq_true rfl) (Val.load 0 rfl ag24 rfl rfl) ?_
    refine TL.val rfl rfl (Nat.le_of_ble_eq_true rfl) (Val.xor rfl rfl rfl) ?_
    refine TL.val rfl rfl (Nat.le_of_ble_eq_true rfl) (Val.fieldAddr rfl fl185_0 sz182 rfl) ?_
    refine TL.val rfl rfl (Nat.le_of_ble_eq_true rfl) (Val.indexAddrA (i := 2) rfl rfl ar182 sz24 rfl (by first | decide | omega) rfl) ?_
    refine TL.val rfl rfl (Nat.le_of_ble_eq_true rfl) (Val.load 0 rfl ag24 rfl rfl) ?_
    refine TL.val rfl rfl (Nat.le_of_ble_eq_true rfl) (Val.xor rfl rfl rfl) ?_
    refine TL.val rfl rfl (Nat.le_of_ble_eq_true rfl) (Val.fieldAddr rfl fl185_0 sz182 rfl) ?_
    refine TL.val rfl rfl (Nat.le_of_ble_eq_true rfl) (Val.indexAddrA (i := 3) rfl rfl ar182 sz24 rfl (by first | decide | omega) rfl) ?_
    refine TL.val rfl rfl (Nat.le_of_ble_eq_true rfl) (Val.load 0 rfl ag24 rfl rfl) ?_
    refine TL.val rfl rfl (Nat.le_of_ble_eq_true rfl) (Val.xor rfl rfl rfl) ?_
    refine TL.val rfl rfl (Nat.le_of_ble_eq_true rfl) (Val.assign rfl) ?_
    refine TL.nil ?_
    refine AtX.then ?_
    refine TC.env (E' := [(2, _)]) (Sub.cons rfl (Sub.nil _)) ?_
    refine TC.ret1 (fn := Try.f104) (fun _ _ h => h) rfl (RV.tmp rfl) (M' := hobj b w A d.length c k :: M) (by repeat (first | exact ro_refl | exact ro_pre | refine ro_tail ?_ | refine ro_app ?_)) ?_
    rw [endW_eq hv]; exact ⟨rfl, rfl⟩

/-- quorumite/sip.Sum -/
theorem sipSum_fn (k : K2) (l : List UInt8) (A : Option Addr) (n c : Nat) (M : Hp) (hA : RdS M A (bv l)) (hn : n = l.length) (hl : l.length ≤ 1000) : FnC Try.prog 79 #[.agg #[.int .u64 k.a, .int .u64 k.b], .slice A n c] M (fun v M' => v = .int .u64 (sipSum k.a k.b l) ∧ M = M') := by
  subst hn
  refine FnC.intro Try.func79 rfl 13 rfl (by simp) (fun z => ?_)
  refine TC.env (E' := [(0, _), (1, _)]) (Sub.cons rfl (Sub.cons rfl (Sub.nil _))) ?_
  refine TC.seq ?_
  refine TC.region ?_
  refine TL.does (some 2) rfl rfl rfl (Does.box rfl rfl) ?_
  rintro _ _ ⟨b1, rfl, rfl⟩
  refine TL.val rfl rfl (Nat.le_of_ble_eq_true rfl) (Val.assign rfl) ?_
  refine TL.nil ?_
  refine AtX.then ?_
  refine TC.env (E' := [(1, _), (2, _), (4, _)]) (Sub.cons rfl (Sub.cons rfl (Sub.cons rfl (Sub.nil _)))) ?_
  refine TC.seq ?_
  refine TC.region ?_
  refine TL.val rfl rfl (Nat.le_of_ble_eq_true rfl) (Val.loadAgg 0 rfl ag69 sz69 rfl rfl rfl) ?_
  refine TL.does (some 7) rfl rfl rfl (Does.callF go102 rfl (New_fn k _)) ?_
  rintro _ _ ⟨b5, rfl, rfl⟩
  refine TL.val rfl rfl (Nat.le_of_ble_eq_true rfl) (Val.assign rfl) ?_
  refine TL.nil ?_
  refine AtX.then ?_
  refine TC.env (E' := [(1, _), (4, _), (5, _)]) (Sub.cons rfl (Sub.cons rfl (Sub.cons rfl (Sub.nil _)))) ?_
  refine TC.seq ?_
  refine TC.region ?_
  refine TL.val rfl rfl (Nat.le_of_ble_eq_true rfl) (Val.move rfl) ?_
  refine TL.val rfl rfl (Nat.le_of_ble_eq_true rfl) (Val.move rfl) ?_
  refine TL.does (some 10) rfl rfl rfl (Does.callF go103 rfl (Write_fn b5 (keyW k.a k.b) l A _ c _ (hA.cons _) rfl hl)) ?_
  rintro _ _ ⟨σ, A1, cp, rfl, hR, rfl⟩
  refine TL.nil ?_
  refine AtX.then ?_
  refine TC.env (E' := [(4, _), (5, _)]) (Sub.cons rfl (Sub.cons rfl (Sub.nil _))) ?_
  refine TC.seq ?_
  refine TC.region ?_
  refine TL.val rfl rfl (Nat.le_of_ble_eq_true rfl) (Val.move rfl) ?_
  refine TL.does (some 12) rfl rfl rfl (Does.callF go104 rfl (HSum_fn b5 _ _ _ _ _ _ _ hR (by rw [List.length_drop]) (by rw [List.length_drop]; omega))) ?_
  rintro _ _ ⟨rfl, rfl⟩
  rw [lastB_eq]
  refine TL.val rfl rfl (Nat.le_of_ble_eq_true rfl) (Val.assign rfl) ?_
  refine TL.nil ?_
  refine AtX.then ?_
  refine TC.env (E' := [(4, _)]) (Sub.cons rfl (Sub.nil _)) ?_
  refine TC.ret1 (fn := Try.f79) (fun _ _ h => h) rfl (RV.tmp rfl) (M' := M) (fun w h => by have h := h.drop; exact (ro_app (ro_tail ro_refl)) w h) ?_
  exact ⟨rfl, rfl⟩

end Go.Proofs.Ytphoapajlcaoeaa
/- walks -/
set_option linter.unusedVariables false
set_option linter.unusedSimpArgs false
set_option maxRecDepth 100000
set_option maxHeartbeats 4000000
namespace Go.Proofs.Ytphoapajlcaoeaa
open Go Go.X
/-- slices.Grow[[]byte,byte] -/
theorem Grow_fn (n : Nat) (M : Hp) (hn : n ≤ 1000) : FnC Try.prog 113 #[.slice none 0 0, .int .i64 n] M (fun v M' => ∃ σ, v = .slice (slA σ) 0 (slC σ) ∧ slOk σ 1 0 [] ∧ M' = slH σ 5 [] ++ M) := by
  refine FnC.intro Try.func113 rfl 27 rfl (by simp) (fun z => ?_)
  refine TC.env (E' := [(0, _), (1, _)]) (Sub.cons rfl (Sub.cons rfl (Sub.nil _))) ?_
  refine TC.seq ?_
  refine TC.region ?_
  refine TL.val rfl rfl (Nat.le_of_ble_eq_true rfl) (Val.assign rfl) ?_
  refine TL.nil ?_
  refine AtX.then ?_
  refine TC.seq ?_
  refine TC.seq ?_
  refine TC.region ?_
  refine TL.val rfl rfl (Nat.le_of_ble_eq_true rfl) (Val.move rfl) ?_
  refine TL.val rfl rfl (Nat.le_of_ble_eq_true rfl) (Val.lss rfl rfl) ?_
  refine TL.nil ?_
  refine AtX.then ?_
  refine TC.env (E' := [(0, _), (1, _), (4, _), (6, _)]) (Sub.cons rfl (Sub.cons rfl (Sub.cons rfl (Sub.cons rfl (Sub.nil _))))) ?_
  first | refine TC.condP rfl (fun c1 => ?_) (fun c1 => ?_) | refine TC.condN rfl (fun c1 => ?_) (fun c1 => ?_) | refine TC.condB rfl (fun c1 => ?_) (fun c1 => ?_) | refine TC.cond rfl (fun c1 => ?_) (fun c1 => ?_)
  · skip
    omega
  · skip
    refine TC.env (E' := [(0, _), (1, _), (4, _)]) (Sub.cons rfl (Sub.cons rfl (Sub.cons rfl (Sub.nil _)))) ?_
    refine TC.skip ?_
    refine AtX.then ?_
    refine TC.env (E' := [(0, _), (1, _), (4, _)]) (Sub.cons rfl (Sub.cons rfl (Sub.cons rfl (Sub.nil _)))) ?_
    refine TC.seq ?_
    refine TC.seq ?_
    refine TC.region ?_
    refine TL.val rfl rfl (Nat.le_of_ble_eq_true rfl) (Val.move rfl) ?_
    refine TL.val rfl rfl (Nat.le_of_ble_eq_true rfl) (Val.move rfl) ?_
    refine TL.val rfl rfl (Nat.le_of_ble_eq_true rfl) (Val.capSl rfl rfl sl37) ?_
    refine TL.val rfl rfl (Nat.le_of_ble_eq_true rfl) (Val.move rfl) ?_
    refine TL.val rfl rfl (Nat.le_of_ble_eq_true rfl) (Val.lenSl rfl rfl sl37) ?_
    refine TL.val rfl rfl (Nat.le_of_ble_eq_true rfl) (Val.sub rfl rfl (r := 0) (by decide)) ?_
    refine TL.val rfl rfl (Nat.le_of_ble_eq_true rfl) (Val.sub rfl rfl (r := (n : Int)) (by rw [w_i64 (by omega) (by omega)]; omega)) ?_
    refine TL.val rfl rfl (Nat.le_of_ble_eq_true rfl) (Val.assign rfl) ?_
    refine TL.nil ?_
    refine AtX.then ?_
    refine TC.env (E' := [(0, _), (1, _), (4, _)]) (Sub.cons rfl (Sub.cons rfl (Sub.cons rfl (Sub.nil _)))) ?_
    refine TC.seq ?_
    refine TC.region ?_
    refine TL.val rfl rfl (Nat.le_of_ble_eq_true rfl) (Val.move rfl) ?_
    refine TL.val rfl rfl (Nat.le_of_ble_eq_true rfl) (Val.gtr rfl rfl) ?_
    refine TL.nil ?_
    refine AtX.then ?_
    refine TC.env (E' := [(0, _), (1, _), (4, _), (16, _)]) (Sub.cons rfl (Sub.cons rfl (Sub.cons rfl (Sub.cons rfl (Sub.nil _))))) ?_
    first | refine TC.condP rfl (fun c2 => ?_) (fun c2 => ?_) | refine TC.condN rfl (fun c2 => ?_) (fun c2 => ?_) | refine TC.condB rfl (fun c2 => ?_) (fun c2 => ?_) | refine TC.cond rfl (fun c2 => ?_) (fun c2 => ?_)
    · skip
      refine TC.env (E' := [(0, _), (1, _), (4, _)]) (Sub.cons rfl (Sub.cons rfl (Sub.cons rfl (Sub.nil _)))) ?_
      refine TC.region ?_
      refine TL.val rfl rfl (Nat.le_of_ble_eq_true rfl) (Val.move rfl) ?_
      refine TL.val rfl rfl (Nat.le_of_ble_eq_true rfl) (Val.move rfl) ?_
      refine TL.val rfl rfl (Nat.le_of_ble_eq_true rfl) (Val.capSl rfl rfl sl37) ?_
      refine TL.val rfl rfl (Nat.le_of_ble_eq_true rfl) (Val.sliceTo (j := 0) rfl sl37 sz5 rfl rfl (by omega)) ?_
      refine TL.val rfl rfl (Nat.le_of_ble_eq_true rfl) (Val.move rfl) ?_
      refine TL.does (some 22) rfl rfl rfl (Does.appendS (xs := []) (ys := bv (List.replicate n 0)) none M ro_refl rfl rfl sl37 sz5 by5 ze5 rfl (slOk_nil 1) (srcZ ui3 (by omega)) (by simp) (bv_one _) (by omega) (by omega)) ?_
      rintro _ _ ⟨σ, rfl, hok, rfl⟩
      rw [List.nil_append] at hok ⊢
      rw [Nat.zero_add n] at hok ⊢
      refine TL.val rfl rfl (Nat.le_of_ble_eq_true rfl) (Val.move rfl) ?_
      refine TL.val rfl rfl (Nat.le_of_ble_eq_true rfl) (Val.lenSl rfl rfl sl37) ?_
      refine TL.val rfl rfl (Nat.le_of_ble_eq_true rfl) (Val.sliceTo (j := 0) rfl sl37 sz5 rfl rfl (by omega)) ?_
      refine TL.val rfl rfl (Nat.le_of_ble_eq_true rfl) (Val.assign rfl) ?_
      refine TL.nil ?_
      refine AtX.then ?_
      refine TC.env (E' := [(0, _), (4, _)]) (Sub.cons rfl (Sub.cons rfl (Sub.nil _))) ?_
      refine TC.seq ?_
      refine TC.region ?_
      refine TL.val rfl rfl (Nat.le_of_ble_eq_true rfl) (Val.move rfl) ?_
      refine TL.val rfl rfl (Nat.le_of_ble_eq_true rfl) (Val.assign rfl) ?_
      refine TL.nil ?_
      refine AtX.then ?_
      refine TC.env (E' := [(4, _)]) (Sub.cons rfl (Sub.nil _)) ?_
      refine TC.ret1 (fn := Try.f113) (fun _ _ h => h) rfl (RV.tmp rfl) (fun _ h => h) ?_
      obtain ⟨b, c, sp, rfl, hc⟩ := hok.some (by omega)
      exact ⟨some (b, c, bv (List.replicate n 0) ++ sp), rfl, ⟨rfl, by simpa using hc⟩, by simp [slH]⟩
    · skip
      refine TC.env (E' := [(0, _), (4, _)]) (Sub.cons rfl (Sub.cons rfl (Sub.nil _))) ?_
      refine TC.skip ?_
      refine AtX.then ?_
      refine TC.env (E' := [(0, _), (4, _)]) (Sub.cons rfl (Sub.cons rfl (Sub.nil _))) ?_
      refine TC.seq ?_
      refine TC.region ?_
      refine TL.val rfl rfl (Nat.le_of_ble_eq_true rfl) (Val.move rfl) ?_
      refine TL.val rfl rfl (Nat.le_of_ble_eq_true rfl) (Val.assign rfl) ?_
      refine TL.nil ?_
      refine AtX.then ?_
      refine TC.env (E' := [(4, _)]) (Sub.cons rfl (Sub.nil _)) ?_
      refine TC.ret1 (fn := Try.f113) (fun _ _ h => h) rfl (RV.tmp rfl) (fun _ h => h) ?_
      exact ⟨none, rfl, slOk_nil 1, rfl⟩

/-- slices.Concat[[]byte,byte] -/
theorem Concat_fn (q : List Bs) (A : Option Addr) (n c : Nat) (M : Hp) (hq : RdS M A (q.map bsV)) (hn : n = q.length) (hs : ∀ x ∈ q, RdS M x.1 (bv x.2.1)) (hl : (cat q).length ≤ 1000) (hc : q.length ≤ 1000) : FnC Try.prog 101 #[.slice A n c] M (fun v M' => ∃ σ, v = .slice (slA σ) (cat q).length (slC σ) ∧ slOk σ 1 (cat q).length (bv (cat q)) ∧ M' = slH σ 5 (bv (cat q)) ++ M) := by
  subst hn
  refine FnC.intro Try.func101 rfl 36 rfl (by simp) (fun z => ?_)
  refine TC.env (E' := [(0, _)]) (Sub.cons rfl (Sub.nil _)) ?_
  refine TC.seq ?_
  refine TC.region ?_
  refine TL.val rfl rfl (Nat.le_of_ble_eq_true rfl) (Val.assign rfl) ?_
  refine TL.nil ?_
  refine AtX.then ?_
  refine TC.seq ?_
  refine TC.region ?_
  refine TL.val rfl rfl (Nat.le_of_ble_eq_true rfl) (Val.assign rfl) ?_
  refine TL.nil ?_
  refine AtX.then ?_
  refine TC.seq ?_
  refine TC.seq ?_
  refine TC.region ?_
  refine TL.val rfl rfl (Nat.le_of_ble_eq_true rfl) (Val.move rfl) ?_
  refine TL.val rfl rfl (Nat.le_of_ble_eq_true rfl) (Val.lenSl rfl rfl sl180) ?_
  refine TL.val rfl rfl (Nat.le_of_ble_eq_true rfl) (Val.move rfl) ?_
  refine TL.nil ?_
  refine AtX.then ?_
  refine TC.block ?_
  refine TC.loop (ι := Nat) (fun k => [(0, .slice A q.length c), (3, .int .i64 ((cat (q.take k)).length : Nat)), (9, .slice A q.length c), (10, .int .i64 (q.length : Nat)), (11, .int .i64 (k : Nat))]) (fun _ => M) (fun k => k ≤ q.length) (fun k => q.length - k) 0 ?_ (Sub.cons rfl (Sub.cons rfl (Sub.cons rfl (Sub.cons rfl (Sub.cons rfl (Sub.nil _)))))) (fun _ h => h) ?_
  · exact Nat.zero_le _
  intro k hk
  refine TC.seq ?_
  refine TC.region ?_
  refine TL.val rfl rfl (Nat.le_of_ble_eq_true rfl) (Val.lss rfl rfl) ?_
  refine TL.nil ?_
  refine AtX.then ?_
  refine TC.seq ?_
  first | refine TC.condP rfl (fun c1 => ?_) (fun c1 => ?_) | refine TC.condN rfl (fun c1 => ?_) (fun c1 => ?_) | refine TC.condB rfl (fun c1 => ?_) (fun c1 => ?_) | refine TC.cond rfl (fun c1 => ?_) (fun c1 => ?_)
  · skip
    refine TC.skip ?_
    refine AtX.then ?_
    refine TC.seq ?_
    refine TC.block ?_
    refine TC.seq ?_
    have hlt : k < q.length := by omega
    obtain ⟨x, hx⟩ : ∃ x, q[k]? = some x := ⟨_, List.getElem?_eq_getElem hlt⟩
    have hle := cat_le q (k + 1)
    have hle0 := cat_le q k
    obtain ⟨bq, oq, rfl, hR⟩ := RdS.get hq (by simp; omega)
    have hxl : (cat (q.take (k + 1))).length = (cat (q.take k)).length + x.2.1.length := by rw [catS hx, List.length_append]
    refine TC.region ?_
    refine TL.val rfl rfl (Nat.le_of_ble_eq_true rfl) (Val.indexAddr (i := k) (r := oq + k) rfl rfl sl180 sz37 rfl hlt (by omega)) ?_
    refine TL.val rfl rfl (Nat.le_of_ble_eq_true rfl) (Val.loadRd (j := k) rfl ag37 hR rfl (map_get hx)) ?_
    refine TL.val rfl rfl (Nat.le_of_ble_eq_true rfl) (Val.assign rfl) ?_
    refine TL.nil ?_
    refine AtX.then ?_
    refine TC.seq ?_
    refine TC.region ?_
    refine TL.val rfl rfl (Nat.le_of_ble_eq_true rfl) (Val.move rfl) ?_
    refine TL.val rfl rfl (Nat.le_of_ble_eq_true rfl) (Val.move rfl) ?_
    refine TL.val rfl rfl (Nat.le_of_ble_eq_true rfl) (Val.lenSl rfl rfl sl37) ?_
    refine TL.val rfl rfl (Nat.le_of_ble_eq_true rfl) (Val.add rfl rfl (r := ((cat (q.take (k + 1))).length : Nat)) (by rw [w_i64 (by omega) (by omega)]; omega)) ?_
    refine TL.val rfl rfl (Nat.le_of_ble_eq_true rfl) (Val.assign rfl) ?_
    refine TL.nil ?_
    refine AtX.then ?_
    refine TC.seq ?_
    refine TC.region ?_
    refine TL.val rfl rfl (Nat.le_of_ble_eq_true rfl) (Val.move rfl) ?_
    refine TL.val rfl rfl (Nat.le_of_ble_eq_true rfl) (Val.lss rfl rfl) ?_
    refine TL.nil ?_
    refine AtX.then ?_
    first | refine TC.condP rfl (fun c2 => ?_) (fun c2 => ?_) | refine TC.condN rfl (fun c2 => ?_) (fun c2 => ?_) | refine TC.condB rfl (fun c2 => ?_) (fun c2 => ?_) | refine TC.cond rfl (fun c2 => ?_) (fun c2 => ?_)
    · skip
      omega
    · skip
      refine TC.skip ?_
      refine AtX.blk ?_
      refine AtX.then ?_
      refine TC.region ?_
      refine TL.val rfl rfl (Nat.le_of_ble_eq_true rfl) (Val.add rfl rfl (w_i64 (by omega) (by omega))) ?_
      refine TL.val rfl rfl (Nat.le_of_ble_eq_true rfl) (Val.move rfl) ?_
      refine TL.nil ?_
      refine AtX.round (k + 1) ?_ ?_ (Sub.cons rfl (Sub.cons rfl (Sub.cons rfl (Sub.cons rfl (Sub.cons rfl (Sub.nil _)))))) (fun _ h => h)
      · omega
      · omega
  · skip
    refine TC.exit ?_
    refine AtX.seqX ?_
    refine AtX.seqX ?_
    refine AtX.hit ?_
    refine AtX.then ?_
    refine TC.env (E' := [(0, _), (3, _)]) (Sub.cons rfl (Sub.cons rfl (Sub.nil _))) ?_
    refine TC.seq ?_
    have hkl : k = q.length := by omega
    subst hkl
    rw [cat_all]
    refine TC.region ?_
    refine TL.val rfl rfl (Nat.le_of_ble_eq_true rfl) (Val.move rfl) ?_
    refine TL.does (some 24) rfl rfl rfl (Does.callF go113 rfl (Grow_fn (cat q).length _ (by omega))) ?_
    rintro _ _ ⟨σ0, rfl, hok0, rfl⟩
    refine TL.val rfl rfl (Nat.le_of_ble_eq_true rfl) (Val.assign rfl) ?_
    refine TL.nil ?_
    refine AtX.then ?_
    refine TC.env (E' := [(0, _), (6, _)]) (Sub.cons rfl (Sub.cons rfl (Sub.nil _))) ?_
    refine TC.seq ?_
    refine TC.seq ?_
    refine TC.region ?_
    refine TL.val rfl rfl (Nat.le_of_ble_eq_true rfl) (Val.move rfl) ?_
    refine TL.val rfl rfl (Nat.le_of_ble_eq_true rfl) (Val.lenSl rfl rfl sl180) ?_
    refine TL.val rfl rfl (Nat.le_of_ble_eq_true rfl) (Val.move rfl) ?_
    refine TL.nil ?_
    refine AtX.then ?_
    refine TC.env (E' := [(6, _), (25, _), (26, _), (27, _)]) (Sub.cons rfl (Sub.cons rfl (Sub.cons rfl (Sub.cons rfl (Sub.nil _))))) ?_
    refine TC.block ?_
    refine TC.loop (ι := (Nat × Sl)) (fun i => [(6, .slice (slA i.2) (cat (q.take i.1)).length (slC i.2)), (25, .slice A q.length c), (26, .int .i64 (q.length : Nat)), (27, .int .i64 (i.1 : Nat))]) (fun i => slH i.2 5 (bv (cat (q.take i.1))) ++ M) (fun i => i.1 ≤ q.length ∧ slOk i.2 1 (cat (q.take i.1)).length (bv (cat (q.take i.1)))) (fun i => q.length - i.1) (0, σ0) ?_ (Sub.cons rfl (Sub.cons rfl (Sub.cons rfl (Sub.cons rfl (Sub.nil _))))) (fun _ h => h) ?_
    · exact ⟨Nat.zero_le _, hok0⟩
    rintro ⟨k, σ⟩ ⟨hk, hok⟩
    dsimp only at hk hok ⊢
    refine TC.seq ?_
    refine TC.region ?_
    refine TL.val rfl rfl (Nat.le_of_ble_eq_true rfl) (Val.lss rfl rfl) ?_
    refine TL.nil ?_
    refine AtX.then ?_
    refine TC.seq ?_
    first | refine TC.condP rfl (fun c3 => ?_) (fun c3 => ?_) | refine TC.condN rfl (fun c3 => ?_) (fun c3 => ?_) | refine TC.condB rfl (fun c3 => ?_) (fun c3 => ?_) | refine TC.cond rfl (fun c3 => ?_) (fun c3 => ?_)
    · skip
      refine TC.skip ?_
      refine AtX.then ?_
      refine TC.seq ?_
      refine TC.block ?_
      refine TC.seq ?_
      have hlt : k < q.length := by omega
      obtain ⟨x, hx⟩ : ∃ x, q[k]? = some x := ⟨_, List.getElem?_eq_getElem hlt⟩
      have hle := cat_le q (k + 1)
      have hle0 := cat_le q k
      obtain ⟨bq, oq, rfl, hR⟩ := RdS.get hq (by simp; omega)
      have hxl : (cat (q.take (k + 1))).length = (cat (q.take k)).length + x.2.1.length := by rw [catS hx, List.length_append]
      refine TC.region ?_
      refine TL.val rfl rfl (Nat.le_of_ble_eq_true rfl) (Val.indexAddr (i := k) (r := oq + k) rfl rfl sl180 sz37 rfl hlt (by omega)) ?_
      refine TL.val rfl rfl (Nat.le_of_ble_eq_true rfl) (Val.loadRd (j := k) rfl ag37 (hR.app _) rfl (map_get hx)) ?_
      refine TL.val rfl rfl (Nat.le_of_ble_eq_true rfl) (Val.assign rfl) ?_
      refine TL.nil ?_
      refine AtX.then ?_
      refine TC.region ?_
      refine TL.val rfl rfl (Nat.le_of_ble_eq_true rfl) (Val.move rfl) ?_
      refine TL.val rfl rfl (Nat.le_of_ble_eq_true rfl) (Val.move rfl) ?_
      refine TL.does (some 33) rfl rfl rfl (Does.appendS (xs := bv (cat (q.take k))) (ys := bv x.2.1) σ M ro_refl rfl rfl sl37 sz5 by5 ze5 rfl hok (srcB us37 ((hs x (List.mem_of_getElem? hx)).app _)) (by simp) (bv_one _) (by omega) (by omega)) ?_
      rintro _ _ ⟨σ1, rfl, hok1, rfl⟩
      refine TL.val rfl rfl (Nat.le_of_ble_eq_true rfl) (Val.assign rfl) ?_
      refine TL.nil ?_
      refine AtX.blk ?_
      refine AtX.then ?_
      refine TC.region ?_
      refine TL.val rfl rfl (Nat.le_of_ble_eq_true rfl) (Val.add rfl rfl (w_i64 (by omega) (by omega))) ?_
      refine TL.val rfl rfl (Nat.le_of_ble_eq_true rfl) (Val.move rfl) ?_
      refine TL.nil ?_
      refine AtX.round (i := (k, σ)) (k + 1, σ1) ?_ ?_ (Sub.cons (by rw [catS hx, List.length_append]; rfl) (Sub.cons rfl (Sub.cons rfl (Sub.cons rfl (Sub.nil _))))) (fun w h => by dsimp only; rw [catS hx, bv_append]; exact h)
      · exact ⟨by omega, by dsimp only; rw [catS hx, List.length_append, bv_append]; exact hok1⟩
      · show q.length - (k + 1) < q.length - k; omega
    · skip
      refine TC.exit ?_
      refine AtX.seqX ?_
      refine AtX.seqX ?_
      refine AtX.hit ?_
      refine AtX.then ?_
      refine TC.env (E' := [(6, _)]) (Sub.cons rfl (Sub.nil _)) ?_
      refine TC.seq ?_
      have hkl : k = q.length := by omega
      subst hkl
      rw [cat_all] at hok ⊢
      refine TC.region ?_
      refine TL.val rfl rfl (Nat.le_of_ble_eq_true rfl) (Val.move rfl) ?_
      refine TL.val rfl rfl (Nat.le_of_ble_eq_true rfl) (Val.assign rfl) ?_
      refine TL.nil ?_
      refine AtX.then ?_
      refine TC.env (E' := [(2, _)]) (Sub.cons rfl (Sub.nil _)) ?_
      refine TC.ret1 (fn := Try.f101) (fun _ _ h => h) rfl (RV.tmp rfl) (fun _ h => h) ?_
      exact ⟨σ, rfl, hok, rfl⟩

/-- quorumite/mac.Derive -/
theorem Derive_fn (k : K2) (lab : List UInt8) (n : Int) (M : Hp) (hlab : lab.length ≤ 100) : FnC Try.prog 76 #[.agg #[.int .u64 k.a, .int .u64 k.b], .string (ofL lab), .int .u64 n] M (fun v M' => v = .agg #[.int .u64 (deriveK k lab n).a, .int .u64 (deriveK k lab n).b] ∧ M = M') := by
  refine FnC.intro Try.func76 rfl 28 rfl (by simp) (fun z => ?_)
  refine TC.env (E' := [(0, _), (1, _), (2, _)]) (Sub.cons rfl (Sub.cons rfl (Sub.cons rfl (Sub.nil _)))) ?_
  refine TC.seq ?_
  refine TC.region ?_
  refine TL.does (some 3) rfl rfl rfl (Does.box rfl rfl) ?_
  rintro _ _ ⟨b1, rfl, rfl⟩
  refine TL.does (some 6) rfl rfl rfl (Does.alloc ze69 rfl) ?_
  rintro _ _ ⟨b2, rfl, rfl⟩
  refine TL.nil ?_
  refine AtX.then ?_
  refine TC.env (E' := [(1, _), (2, _), (3, _), (6, _)]) (Sub.cons rfl (Sub.cons rfl (Sub.cons rfl (Sub.cons rfl (Sub.nil _))))) ?_
  refine TC.seq ?_
  refine TC.region ?_
  refine TL.does (some 7) rfl rfl rfl (Does.alloc ze69 rfl) ?_
  rintro _ _ ⟨b3, rfl, rfl⟩
  refine TL.nil ?_
  refine AtX.then ?_
  refine TC.env (E' := [(1, _), (2, _), (3, _), (6, _), (7, _)]) (Sub.cons rfl (Sub.cons rfl (Sub.cons rfl (Sub.cons rfl (Sub.cons rfl (Sub.nil _)))))) ?_
  refine TC.seq ?_
  refine TC.seq ?_
  refine TC.region ?_
  refine TL.val rfl rfl (Nat.le_of_ble_eq_true rfl) (Val.move rfl) ?_
  refine TL.nil ?_
  refine AtX.then ?_
  refine TC.env (E' := [(1, _), (2, _), (3, _), (6, _), (7, _), (9, _)]) (Sub.cons rfl (Sub.cons rfl (Sub.cons rfl (Sub.cons rfl (Sub.cons rfl (Sub.cons rfl (Sub.nil _))))))) ?_
  refine TC.block ?_
  refine TC.loop (ι := Nat) (fun i => [(1, .string (ofL lab)), (2, .int .u64 n), (3, .pointer (some ⟨b1, 0, none⟩)), (6, .pointer (some ⟨b2, 0, none⟩)), (7, .pointer (some ⟨b3, 0, none⟩)), (9, .int .i64 (i : Nat))]) (fun i => (b3, .cells (dR k lab n i).toArray 69 (0, 0)) :: (b2, .cells #[.int .u64 0, .int .u64 0] 69 (0, 0)) :: ((b1, .cells #[.int .u64 k.a, .int .u64 k.b] 69 (0, 0)) :: M)) (fun i => i ≤ 2) (fun i => 2 - i) 0 ?_ (Sub.cons rfl (Sub.cons rfl (Sub.cons rfl (Sub.cons rfl (Sub.cons rfl (Sub.cons rfl (Sub.nil _))))))) (fun w h => by rw [dR_0]; exact h) ?_
  · exact Nat.zero_le _
  intro i hi
  refine TC.seq ?_
  refine TC.region ?_
  refine TL.val rfl rfl (Nat.le_of_ble_eq_true rfl) (Val.lss rfl rfl) ?_
  refine TL.nil ?_
  refine AtX.then ?_
  refine TC.seq ?_
  first | refine TC.condP rfl (fun c1 => ?_) (fun c1 => ?_) | refine TC.condN rfl (fun c1 => ?_) (fun c1 => ?_) | refine TC.condB rfl (fun c1 => ?_) (fun c1 => ?_) | refine TC.cond rfl (fun c1 => ?_) (fun c1 => ?_)
  · skip
    refine TC.skip ?_
    refine AtX.then ?_
    refine TC.seq ?_
    refine TC.block ?_
    refine TC.seq ?_
    refine TC.region ?_
    refine TL.val rfl rfl (Nat.le_of_ble_eq_true rfl) (Val.move rfl) ?_
    refine TL.val rfl rfl (Nat.le_of_ble_eq_true rfl) (Val.assign rfl) ?_
    refine TL.nil ?_
    refine AtX.then ?_
    have hi2 : i < 2 := by omega
    refine TC.drawL ((b1, .cells #[.int .u64 k.a, .int .u64 k.b] 69 (0, 0)) :: M) mixed 15 ?_
    refine TA.tk 0 1 rfl rfl rfl (Val.move rfl) ?_
    refine TA.tk 1 3 rfl rfl rfl (Val.loadAgg 0 rfl ag69 sz69 rfl rfl rfl) ?_
    refine TA.tk 2 7 rfl rfl rfl (Val.move rfl) ?_
    refine TA.tk 4 23 rfl rfl rfl (Val.move rfl) ?_
    refine TA.tk 5 55 rfl rfl rfl (Val.add rfl rfl (r := ((i + 1 : Nat) : Int)) (by rw [w_i64 (by omega) (by omega)]; push_cast; rfl)) ?_
    refine TA.tk 6 119 rfl rfl rfl (Val.convI rfl iu3 in5 w_b8) ?_
    refine TA.tk 8 375 rfl rfl rfl (Val.move rfl) ?_
    refine TA.three 3 7 9 (by kernel_rfl) ?_ ?_ ?_
    · skip
      refine TO.dz 383 (some 15) rfl rfl rfl rfl (Does.s2bL rfl un9 us37 ui5) ?_
      rintro _ _ ⟨bL, cL, spL, fzL, rfl, rfl⟩
      refine roK ?_
      refine TA.two 7 9 (by kernel_rfl) ?_ ?_
      · skip
        refine TO.dz 511 (some 19) rfl rfl rfl rfl (Does.buildSlice sl37 sz5 ze5 (by decide) (by decide) rfl rfl rfl) ?_
        rintro _ _ ⟨bI, rfl, rfl⟩
        refine roK ?_
        refine TA.one 9 (by kernel_rfl) ?_
        refine TO.dz 1023 (some 21) rfl rfl rfl rfl (Does.callF go78 rfl (sipPut_fn _ _)) ?_
        rintro _ _ ⟨bP, cP, spP, rfl, hcP, rfl⟩
        refine roK ?_
        refine TA.one 10 (by kernel_rfl) ?_
        refine TO.dz 2047 (some 22) rfl rfl rfl rfl (Does.buildSlice sl180 sz37 ze37 (by decide) (by decide) rfl rfl rfl) ?_
        rintro _ _ ⟨bC, rfl, rfl⟩
        refine roK ?_
        refine TA.one 11 (by kernel_rfl) ?_
        refine TO.dz 4095 (some 23) rfl rfl rfl rfl (Does.callF go101 rfl (Concat_fn [(some ⟨bL, 0, none⟩, lab, cL), (some ⟨bI, 0, none⟩, [Go.X.b8 (i + 1 : Nat)], 1), (some ⟨bP, 0, none⟩, put8 n, cP)] _ 3 3 _ (.some (Rd.get (i := 0) rfl rfl)) rfl (by intro x hx; simp only [List.mem_cons, List.not_mem_nil, or_false] at hx; rcases hx with rfl | rfl | rfl <;> first | exact .some (Rd.get (i := 1) rfl (by first | rfl | simp [bv])) | exact .some (Rd.get (i := 2) rfl (by first | rfl | simp [bv])) | exact .some (Rd.get (i := 3) rfl (by first | rfl | simp [bv]))) (by rw [cat3]; simp; omega) (by simp))) ?_
        rintro _ _ ⟨σ, rfl, hok, rfl⟩
        rw [cat3] at hok ⊢
        refine roK ?_
        refine TA.one 12 (by kernel_rfl) ?_
        refine TO.dz 8191 (some 24) rfl rfl rfl rfl (Does.callF go79 rfl (sipSum_fn k (lab ++ [Go.X.b8 (i + 1 : Nat)] ++ put8 n) _ _ _ _ (slRd hok (fun x h => List.mem_append_left _ h)) rfl (by simp; omega))) ?_
        rintro _ _ ⟨rfl, rfl⟩
        refine roK ?_
        refine TA.heap (M' := (b3, .cells (dR k lab n i).toArray 69 (0, 0)) :: (b2, .cells #[.int .u64 0, .int .u64 0] 69 (0, 0)) :: ((b1, .cells #[.int .u64 k.a, .int .u64 k.b] 69 (0, 0)) :: M)) (by repeat (first | exact ro_refl | exact ro_pre | refine ro_tail ?_ | refine ro_app ?_)) ?_
        refine TA.tk 13 16383 rfl rfl rfl (Val.indexAddrA (i := i) (r := i) rfl rfl ar69 sz24 rfl hi2 (by omega)) ?_
        refine TA.one 14 (by kernel_rfl) ?_
        refine TO.dz 32767 none rfl rfl rfl rfl (Does.store (i := 0) rfl rfl rfl sz24 rfl rfl (by simp [dR]; omega) (dR_splice (i := i) hi2) rfl) ?_
        rintro _ _ ⟨rfl, rfl⟩
        refine roK ?_
        refine TA.done (by kernel_rfl) ?_
        refine AtX.blk ?_
        refine AtX.then ?_
        refine TC.region ?_
        refine TL.val rfl rfl (Nat.le_of_ble_eq_true rfl) (Val.add rfl rfl (w_i64 (by omega) (by omega))) ?_
        refine TL.val rfl rfl (Nat.le_of_ble_eq_true rfl) (Val.move rfl) ?_
        refine TL.nil ?_
        refine AtX.round (i + 1) ?_ ?_ (Sub.cons rfl (Sub.cons rfl (Sub.cons rfl (Sub.cons rfl (Sub.cons rfl (Sub.cons rfl (Sub.nil _))))))) (fun _ h => h)
        · omega
        · omega
      · skip
        refine TO.dz 895 (some 21) rfl rfl rfl rfl (Does.callF go78 rfl (sipPut_fn _ _)) ?_
        rintro _ _ ⟨bP, cP, spP, rfl, hcP, rfl⟩
        refine roK ?_
        refine TA.one 7 (by kernel_rfl) ?_
        refine TO.dz 1023 (some 19) rfl rfl rfl rfl (Does.buildSlice sl37 sz5 ze5 (by decide) (by decide) rfl rfl rfl) ?_
        rintro _ _ ⟨bI, rfl, rfl⟩
        refine roK ?_
        refine TA.one 10 (by kernel_rfl) ?_
        refine TO.dz 2047 (some 22) rfl rfl rfl rfl (Does.buildSlice sl180 sz37 ze37 (by decide) (by decide) rfl rfl rfl) ?_
        rintro _ _ ⟨bC, rfl, rfl⟩
        refine roK ?_
        refine TA.one 11 (by kernel_rfl) ?_
        refine TO.dz 4095 (some 23) rfl rfl rfl rfl (Does.callF go101 rfl (Concat_fn [(some ⟨bL, 0, none⟩, lab, cL), (some ⟨bI, 0, none⟩, [Go.X.b8 (i + 1 : Nat)], 1), (some ⟨bP, 0, none⟩, put8 n, cP)] _ 3 3 _ (.some (Rd.get (i := 0) rfl rfl)) rfl (by intro x hx; simp only [List.mem_cons, List.not_mem_nil, or_false] at hx; rcases hx with rfl | rfl | rfl <;> first | exact .some (Rd.get (i := 1) rfl (by first | rfl | simp [bv])) | exact .some (Rd.get (i := 2) rfl (by first | rfl | simp [bv])) | exact .some (Rd.get (i := 3) rfl (by first | rfl | simp [bv]))) (by rw [cat3]; simp; omega) (by simp))) ?_
        rintro _ _ ⟨σ, rfl, hok, rfl⟩
        rw [cat3] at hok ⊢
        refine roK ?_
        refine TA.one 12 (by kernel_rfl) ?_
        refine TO.dz 8191 (some 24) rfl rfl rfl rfl (Does.callF go79 rfl (sipSum_fn k (lab ++ [Go.X.b8 (i + 1 : Nat)] ++ put8 n) _ _ _ _ (slRd hok (fun x h => List.mem_append_left _ h)) rfl (by simp; omega))) ?_
        rintro _ _ ⟨rfl, rfl⟩
        refine roK ?_
        refine TA.heap (M' := (b3, .cells (dR k lab n i).toArray 69 (0, 0)) :: (b2, .cells #[.int .u64 0, .int .u64 0] 69 (0, 0)) :: ((b1, .cells #[.int .u64 k.a, .int .u64 k.b] 69 (0, 0)) :: M)) (by repeat (first | exact ro_refl | exact ro_pre | refine ro_tail ?_ | refine ro_app ?_)) ?_
        refine TA.tk 13 16383 rfl rfl rfl (Val.indexAddrA (i := i) (r := i) rfl rfl ar69 sz24 rfl hi2 (by omega)) ?_
        refine TA.one 14 (by kernel_rfl) ?_
        refine TO.dz 32767 none rfl rfl rfl rfl (Does.store (i := 0) rfl rfl rfl sz24 rfl rfl (by simp [dR]; omega) (dR_splice (i := i) hi2) rfl) ?_
        rintro _ _ ⟨rfl, rfl⟩
        refine roK ?_
        refine TA.done (by kernel_rfl) ?_
        refine AtX.blk ?_
        refine AtX.then ?_
        refine TC.region ?_
        refine TL.val rfl rfl (Nat.le_of_ble_eq_true rfl) (Val.add rfl rfl (w_i64 (by omega) (by omega))) ?_
        refine TL.val rfl rfl (Nat.le_of_ble_eq_true rfl) (Val.move rfl) ?_
        refine TL.nil ?_
        refine AtX.round (i + 1) ?_ ?_ (Sub.cons rfl (Sub.cons rfl (Sub.cons rfl (Sub.cons rfl (Sub.cons rfl (Sub.cons rfl (Sub.nil _))))))) (fun _ h => h)
        · omega
        · omega
    · skip
      refine TO.dz 503 (some 19) rfl rfl rfl rfl (Does.buildSlice sl37 sz5 ze5 (by decide) (by decide) rfl rfl rfl) ?_
      rintro _ _ ⟨bI, rfl, rfl⟩
      refine roK ?_
      refine TA.two 3 9 (by kernel_rfl) ?_ ?_
      · skip
        refine TO.dz 511 (some 15) rfl rfl rfl rfl (Does.s2bL rfl un9 us37 ui5) ?_
        rintro _ _ ⟨bL, cL, spL, fzL, rfl, rfl⟩
        refine roK ?_
        refine TA.one 9 (by kernel_rfl) ?_
        refine TO.dz 1023 (some 21) rfl rfl rfl rfl (Does.callF go78 rfl (sipPut_fn _ _)) ?_
        rintro _ _ ⟨bP, cP, spP, rfl, hcP, rfl⟩
        refine roK ?_
        refine TA.one 10 (by kernel_rfl) ?_
        refine TO.dz 2047 (some 22) rfl rfl rfl rfl (Does.buildSlice sl180 sz37 ze37 (by decide) (by decide) rfl rfl rfl) ?_
        rintro _ _ ⟨bC, rfl, rfl⟩
        refine roK ?_
        refine TA.one 11 (by kernel_rfl) ?_
        refine TO.dz 4095 (some 23) rfl rfl rfl rfl (Does.callF go101 rfl (Concat_fn [(some ⟨bL, 0, none⟩, lab, cL), (some ⟨bI, 0, none⟩, [Go.X.b8 (i + 1 : Nat)], 1), (some ⟨bP, 0, none⟩, put8 n, cP)] _ 3 3 _ (.some (Rd.get (i := 0) rfl rfl)) rfl (by intro x hx; simp only [List.mem_cons, List.not_mem_nil, or_false] at hx; rcases hx with rfl | rfl | rfl <;> first | exact .some (Rd.get (i := 1) rfl (by first | rfl | simp [bv])) | exact .some (Rd.get (i := 2) rfl (by first | rfl | simp [bv])) | exact .some (Rd.get (i := 3) rfl (by first | rfl | simp [bv]))) (by rw [cat3]; simp; omega) (by simp))) ?_
        rintro _ _ ⟨σ, rfl, hok, rfl⟩
        rw [cat3] at hok ⊢
        refine roK ?_
        refine TA.one 12 (by kernel_rfl) ?_
        refine TO.dz 8191 (some 24) rfl rfl rfl rfl (Does.callF go79 rfl (sipSum_fn k (lab ++ [Go.X.b8 (i + 1 : Nat)] ++ put8 n) _ _ _ _ (slRd hok (fun x h => List.mem_append_left _ h)) rfl (by simp; omega))) ?_
        rintro _ _ ⟨rfl, rfl⟩
        refine roK ?_
        refine TA.heap (M' := (b3, .cells (dR k lab n i).toArray 69 (0, 0)) :: (b2, .cells #[.int .u64 0, .int .u64 0] 69 (0, 0)) :: ((b1, .cells #[.int .u64 k.a, .int .u64 k.b] 69 (0, 0)) :: M)) (by repeat (first | exact ro_refl | exact ro_pre | refine ro_tail ?_ | refine ro_app ?_)) ?_
        refine TA.tk 13 16383 rfl rfl rfl (Val.indexAddrA (i := i) (r := i) rfl rfl ar69 sz24 rfl hi2 (by omega)) ?_
        refine TA.one 14 (by kernel_rfl) ?_
        refine TO.dz 32767 none rfl rfl rfl rfl (Does.store (i := 0) rfl rfl rfl sz24 rfl rfl (by simp [dR]; omega) (dR_splice (i := i) hi2) rfl) ?_
        rintro _ _ ⟨rfl, rfl⟩
        refine roK ?_
        refine TA.done (by kernel_rfl) ?_
        refine AtX.blk ?_
        refine AtX.then ?_
        refine TC.region ?_
        refine TL.val rfl rfl (Nat.le_of_ble_eq_true rfl) (Val.add rfl rfl (w_i64 (by omega) (by omega))) ?_
        refine TL.val rfl rfl (Nat.le_of_ble_eq_true rfl) (Val.move rfl) ?_
        refine TL.nil ?_
        refine AtX.round (i + 1) ?_ ?_ (Sub.cons rfl (Sub.cons rfl (Sub.cons rfl (Sub.cons rfl (Sub.cons rfl (Sub.cons rfl (Sub.nil _))))))) (fun _ h => h)
        · omega
        · omega
      · skip
        refine TO.dz 1015 (some 21) rfl rfl rfl rfl (Does.callF go78 rfl (sipPut_fn _ _)) ?_
        rintro _ _ ⟨bP, cP, spP, rfl, hcP, rfl⟩
        refine roK ?_
        refine TA.one 3 (by kernel_rfl) ?_
        refine TO.dz 1023 (some 15) rfl rfl rfl rfl (Does.s2bL rfl un9 us37 ui5) ?_
        rintro _ _ ⟨bL, cL, spL, fzL, rfl, rfl⟩
        refine roK ?_
        refine TA.one 10 (by kernel_rfl) ?_
        refine TO.dz 2047 (some 22) rfl rfl rfl rfl (Does.buildSlice sl180 sz37 ze37 (by decide) (by decide) rfl rfl rfl) ?_
        rintro _ _ ⟨bC, rfl, rfl⟩
        refine roK ?_
        refine TA.one 11 (by kernel_rfl) ?_
        refine TO.dz 4095 (some 23) rfl rfl rfl rfl (Does.callF go101 rfl (Concat_fn [(some ⟨bL, 0, none⟩, lab, cL), (some ⟨bI, 0, none⟩, [Go.X.b8 (i + 1 : Nat)], 1), (some ⟨bP, 0, none⟩, put8 n, cP)] _ 3 3 _ (.some (Rd.get (i := 0) rfl rfl)) rfl (by intro x hx; simp only [List.mem_cons, List.not_mem_nil, or_false] at hx; rcases hx with rfl | rfl | rfl <;> first | exact .some (Rd.get (i := 1) rfl (by first | rfl | simp [bv])) | exact .some (Rd.get (i := 2) rfl (by first | rfl | simp [bv])) | exact .some (Rd.get (i := 3) rfl (by first | rfl | simp [bv]))) (by rw [cat3]; simp; omega) (by simp))) ?_
        rintro _ _ ⟨σ, rfl, hok, rfl⟩
        rw [cat3] at hok ⊢
        refine roK ?_
        refine TA.one 12 (by kernel_rfl) ?_
        refine TO.dz 8191 (some 24) rfl rfl rfl rfl (Does.callF go79 rfl (sipSum_fn k (lab ++ [Go.X.b8 (i + 1 : Nat)] ++ put8 n) _ _ _ _ (slRd hok (fun x h => List.mem_append_left _ h)) rfl (by simp; omega))) ?_
        rintro _ _ ⟨rfl, rfl⟩
        refine roK ?_
        refine TA.heap (M' := (b3, .cells (dR k lab n i).toArray 69 (0, 0)) :: (b2, .cells #[.int .u64 0, .int .u64 0] 69 (0, 0)) :: ((b1, .cells #[.int .u64 k.a, .int .u64 k.b] 69 (0, 0)) :: M)) (by repeat (first | exact ro_refl | exact ro_pre | refine ro_tail ?_ | refine ro_app ?_)) ?_
        refine TA.tk 13 16383 rfl rfl rfl (Val.indexAddrA (i := i) (r := i) rfl rfl ar69 sz24 rfl hi2 (by omega)) ?_
        refine TA.one 14 (by kernel_rfl) ?_
        refine TO.dz 32767 none rfl rfl rfl rfl (Does.store (i := 0) rfl rfl rfl sz24 rfl rfl (by simp [dR]; omega) (dR_splice (i := i) hi2) rfl) ?_
        rintro _ _ ⟨rfl, rfl⟩
        refine roK ?_
        refine TA.done (by kernel_rfl) ?_
        refine AtX.blk ?_
        refine AtX.then ?_
        refine TC.region ?_
        refine TL.val rfl rfl (Nat.le_of_ble_eq_true rfl) (Val.add rfl rfl (w_i64 (by omega) (by omega))) ?_
        refine TL.val rfl rfl (Nat.le_of_ble_eq_true rfl) (Val.move rfl) ?_
        refine TL.nil ?_
        refine AtX.round (i + 1) ?_ ?_ (Sub.cons rfl (Sub.cons rfl (Sub.cons rfl (Sub.cons rfl (Sub.cons rfl (Sub.cons rfl (Sub.nil _))))))) (fun _ h => h)
        · omega
        · omega
    · skip
      refine TO.dz 887 (some 21) rfl rfl rfl rfl (Does.callF go78 rfl (sipPut_fn _ _)) ?_
      rintro _ _ ⟨bP, cP, spP, rfl, hcP, rfl⟩
      refine roK ?_
      refine TA.two 3 7 (by kernel_rfl) ?_ ?_
      · skip
        refine TO.dz 895 (some 15) rfl rfl rfl rfl (Does.s2bL rfl un9 us37 ui5) ?_
        rintro _ _ ⟨bL, cL, spL, fzL, rfl, rfl⟩
        refine roK ?_
        refine TA.one 7 (by kernel_rfl) ?_
        refine TO.dz 1023 (some 19) rfl rfl rfl rfl (Does.buildSlice sl37 sz5 ze5 (by decide) (by decide) rfl rfl rfl) ?_
        rintro _ _ ⟨bI, rfl, rfl⟩
        refine roK ?_
        refine TA.one 10 (by kernel_rfl) ?_
        refine TO.dz 2047 (some 22) rfl rfl rfl rfl (Does.buildSlice sl180 sz37 ze37 (by decide) (by decide) rfl rfl rfl) ?_
        rintro _ _ ⟨bC, rfl, rfl⟩
        refine roK ?_
        refine TA.one 11 (by kernel_rfl) ?_
        refine TO.dz 4095 (some 23) rfl rfl rfl rfl (Does.callF go101 rfl (Concat_fn [(some ⟨bL, 0, none⟩, lab, cL), (some ⟨bI, 0, none⟩, [Go.X.b8 (i + 1 : Nat)], 1), (some ⟨bP, 0, none⟩, put8 n, cP)] _ 3 3 _ (.some (Rd.get (i := 0) rfl rfl)) rfl (by intro x hx; simp only [List.mem_cons, List.not_mem_nil, or_false] at hx; rcases hx with rfl | rfl | rfl <;> first | exact .some (Rd.get (i := 1) rfl (by first | rfl | simp [bv])) | exact .some (Rd.get (i := 2) rfl (by first | rfl | simp [bv])) | exact .some (Rd.get (i := 3) rfl (by first | rfl | simp [bv]))) (by rw [cat3]; simp; omega) (by simp))) ?_
        rintro _ _ ⟨σ, rfl, hok, rfl⟩
        rw [cat3] at hok ⊢
        refine roK ?_
        refine TA.one 12 (by kernel_rfl) ?_
        refine TO.dz 8191 (some 24) rfl rfl rfl rfl (Does.callF go79 rfl (sipSum_fn k (lab ++ [Go.X.b8 (i + 1 : Nat)] ++ put8 n) _ _ _ _ (slRd hok (fun x h => List.mem_append_left _ h)) rfl (by simp; omega))) ?_
        rintro _ _ ⟨rfl, rfl⟩
        refine roK ?_
        refine TA.heap (M' := (b3, .cells (dR k lab n i).toArray 69 (0, 0)) :: (b2, .cells #[.int .u64 0, .int .u64 0] 69 (0, 0)) :: ((b1, .cells #[.int .u64 k.a, .int .u64 k.b] 69 (0, 0)) :: M)) (by repeat (first | exact ro_refl | exact ro_pre | refine ro_tail ?_ | refine ro_app ?_)) ?_
        refine TA.tk 13 16383 rfl rfl rfl (Val.indexAddrA (i := i) (r := i) rfl rfl ar69 sz24 rfl hi2 (by omega)) ?_
        refine TA.one 14 (by kernel_rfl) ?_
        refine TO.dz 32767 none rfl rfl rfl rfl (Does.store (i := 0) rfl rfl rfl sz24 rfl rfl (by simp [dR]; omega) (dR_splice (i := i) hi2) rfl) ?_
        rintro _ _ ⟨rfl, rfl⟩
        refine roK ?_
        refine TA.done (by kernel_rfl) ?_
        refine AtX.blk ?_
        refine AtX.then ?_
        refine TC.region ?_
        refine TL.val rfl rfl (Nat.le_of_ble_eq_true rfl) (Val.add rfl rfl (w_i64 (by omega) (by omega))) ?_
        refine TL.val rfl rfl (Nat.le_of_ble_eq_true rfl) (Val.move rfl) ?_
        refine TL.nil ?_
        refine AtX.round (i + 1) ?_ ?_ (Sub.cons rfl (Sub.cons rfl (Sub.cons rfl (Sub.cons rfl (Sub.cons rfl (Sub.cons rfl (Sub.nil _))))))) (fun _ h => h)
        · omega
        · omega
      · skip
        refine TO.dz 1015 (some 19) rfl rfl rfl rfl (Does.buildSlice sl37 sz5 ze5 (by decide) (by decide) rfl rfl rfl) ?_
        rintro _ _ ⟨bI, rfl, rfl⟩
        refine roK ?_
        refine TA.one 3 (by kernel_rfl) ?_
        refine TO.dz 1023 (some 15) rfl rfl rfl rfl (Does.s2bL rfl un9 us37 ui5) ?_
        rintro _ _ ⟨bL, cL, spL, fzL, rfl, rfl⟩
        refine roK ?_
        refine TA.one 10 (by kernel_rfl) ?_
        refine TO.dz 2047 (some 22) rfl rfl rfl rfl (Does.buildSlice sl180 sz37 ze37 (by decide) (by decide) rfl rfl rfl) ?_
        rintro _ _ ⟨bC, rfl, rfl⟩
        refine roK ?_
        refine TA.one 11 (by kernel_rfl) ?_
        refine TO.dz 4095 (some 23) rfl rfl rfl rfl (Does.callF go101 rfl (Concat_fn [(some ⟨bL, 0, none⟩, lab, cL), (some ⟨bI, 0, none⟩, [Go.X.b8 (i + 1 : Nat)], 1), (some ⟨bP, 0, none⟩, put8 n, cP)] _ 3 3 _ (.some (Rd.get (i := 0) rfl rfl)) rfl (by intro x hx; simp only [List.mem_cons, List.not_mem_nil, or_false] at hx; rcases hx with rfl | rfl | rfl <;> first | exact .some (Rd.get (i := 1) rfl (by first | rfl | simp [bv])) | exact .some (Rd.get (i := 2) rfl (by first | rfl | simp [bv])) | exact .some (Rd.get (i := 3) rfl (by first | rfl | simp [bv]))) (by rw [cat3]; simp; omega) (by simp))) ?_
        rintro _ _ ⟨σ, rfl, hok, rfl⟩
        rw [cat3] at hok ⊢
        refine roK ?_
        refine TA.one 12 (by kernel_rfl) ?_
        refine TO.dz 8191 (some 24) rfl rfl rfl rfl (Does.callF go79 rfl (sipSum_fn k (lab ++ [Go.X.b8 (i + 1 : Nat)] ++ put8 n) _ _ _ _ (slRd hok (fun x h => List.mem_append_left _ h)) rfl (by simp; omega))) ?_
        rintro _ _ ⟨rfl, rfl⟩
        refine roK ?_
        refine TA.heap (M' := (b3, .cells (dR k lab n i).toArray 69 (0, 0)) :: (b2, .cells #[.int .u64 0, .int .u64 0] 69 (0, 0)) :: ((b1, .cells #[.int .u64 k.a, .int .u64 k.b] 69 (0, 0)) :: M)) (by repeat (first | exact ro_refl | exact ro_pre | refine ro_tail ?_ | refine ro_app ?_)) ?_
        refine TA.tk 13 16383 rfl rfl rfl (Val.indexAddrA (i := i) (r := i) rfl rfl ar69 sz24 rfl hi2 (by omega)) ?_
        refine TA.one 14 (by kernel_rfl) ?_
        refine TO.dz 32767 none rfl rfl rfl rfl (Does.store (i := 0) rfl rfl rfl sz24 rfl rfl (by simp [dR]; omega) (dR_splice (i := i) hi2) rfl) ?_
        rintro _ _ ⟨rfl, rfl⟩
        refine roK ?_
        refine TA.done (by kernel_rfl) ?_
        refine AtX.blk ?_
        refine AtX.then ?_
        refine TC.region ?_
        refine TL.val rfl rfl (Nat.le_of_ble_eq_true rfl) (Val.add rfl rfl (w_i64 (by omega) (by omega))) ?_
        refine TL.val rfl rfl (Nat.le_of_ble_eq_true rfl) (Val.move rfl) ?_
        refine TL.nil ?_
        refine AtX.round (i + 1) ?_ ?_ (Sub.cons rfl (Sub.cons rfl (Sub.cons rfl (Sub.cons rfl (Sub.cons rfl (Sub.cons rfl (Sub.nil _))))))) (fun _ h => h)
        · omega
        · omega
  · skip
    refine TC.exit ?_
    refine AtX.seqX ?_
    refine AtX.seqX ?_
    refine AtX.hit ?_
    refine AtX.then ?_
    refine TC.env (E' := [(6, _), (7, _)]) (Sub.cons rfl (Sub.cons rfl (Sub.nil _))) ?_
    refine TC.seq ?_
    have h2 : i = 2 := by omega
    subst h2
    rw [dR_2]
    refine TC.region ?_
    refine TL.val rfl rfl (Nat.le_of_ble_eq_true rfl) (Val.loadAgg 0 rfl ag69 sz69 rfl rfl rfl) ?_
    refine TL.does none rfl rfl rfl (Does.store (i := 1) rfl rfl rfl sz69 rfl rfl (by first | exact Nat.le_of_ble_eq_true rfl | decide | omega) rfl rfl) ?_
    rintro _ _ ⟨rfl, rfl⟩
    refine TL.nil ?_
    refine AtX.then ?_
    refine TC.env (E' := [(6, _)]) (Sub.cons rfl (Sub.nil _)) ?_
    refine TC.ret1 (fn := Try.f76) (fun _ _ h => h) rfl (RV.agg (i := 1) rfl ag69 sz69 rfl rfl rfl) (M' := M) (by repeat (first | exact ro_refl | exact ro_pre | refine ro_tail ?_ | refine ro_app ?_)) ?_
    exact ⟨rfl, rfl⟩

end Go.Proofs.Ytphoapajlcaoeaa
/- walks -/
set_option linter.unusedVariables false
set_option linter.unusedSimpArgs false
set_option maxRecDepth 100000
set_option maxHeartbeats 4000000
namespace Go.Proofs.Ytphoapajlcaoeaa
open Go Go.X
/-- quorumite/mac.Root -/
theorem Root_fn (s : Int) (M : Hp) : FnC Try.prog 77 #[.int .u64 s] M (fun v M' => v = .agg #[.int .u64 (rootK s).a, .int .u64 (rootK s).b] ∧ M = M') := by
  refine FnC.intro Try.func77 rfl 8 rfl (by simp) (fun z => ?_)
  refine TC.env (E' := [(0, _)]) (Sub.cons rfl (Sub.nil _)) ?_
  refine TC.sr ?_
  refine TL.d (Does.alloc ze69 rfl) ?_
  rintro _ _ ⟨b1, rfl, rfl⟩
  refine TL.nt ?_
  refine TC.sr ?_
  refine TL.v (Val.move rfl) ?_
  refine TL.v (Val.move rfl) ?_
  refine TL.v (Val.add rfl rfl (r := add64 s 1) rfl) ?_
  refine TL.v (Val.buildA ar69 sz24 ze69 rfl rfl) ?_
  refine TL.d (Does.callF go76 rfl (Derive_fn ⟨s, add64 s 1⟩ [114, 111, 111, 116] 0 _ (by decide))) ?_
  rintro _ _ ⟨rfl, rfl⟩
  first
    | refine TL.d (Does.store (i := 0) rfl rfl rfl sz69 rfl rfl (by first | exact Nat.le_of_ble_eq_true rfl | decide | omega) rfl rfl) ?_
    | refine TL.d (Does.store (i := 1) rfl rfl rfl sz69 rfl rfl (by first | exact Nat.le_of_ble_eq_true rfl | decide | omega) rfl rfl) ?_
    | refine TL.d (Does.store (i := 2) rfl rfl rfl sz69 rfl rfl (by first | exact Nat.le_of_ble_eq_true rfl | decide | omega) rfl rfl) ?_
    | refine TL.d (Does.store (i := 3) rfl rfl rfl sz69 rfl rfl (by first | exact Nat.le_of_ble_eq_true rfl | decide | omega) rfl rfl) ?_
    | refine TL.d (Does.store (i := 4) rfl rfl rfl sz69 rfl rfl (by first | exact Nat.le_of_ble_eq_true rfl | decide | omega) rfl rfl) ?_
    | refine TL.d (Does.store (i := 5) rfl rfl rfl sz69 rfl rfl (by first | exact Nat.le_of_ble_eq_true rfl | decide | omega) rfl rfl) ?_
  rintro _ _ ⟨rfl, rfl⟩
  refine TL.nt ?_
  first
    | refine TC.r1 (M' := M) (fn := Try.f77) (fun _ _ h => h) rfl (RV.agg (i := 0) rfl ag69 sz69 rfl rfl rfl) ?_
    | refine TC.r1 (M' := M) (fn := Try.f77) (fun _ _ h => h) rfl (RV.agg (i := 1) rfl ag69 sz69 rfl rfl rfl) ?_
    | refine TC.r1 (M' := M) (fn := Try.f77) (fun _ _ h => h) rfl (RV.agg (i := 2) rfl ag69 sz69 rfl rfl rfl) ?_
    | refine TC.r1 (M' := M) (fn := Try.f77) (fun _ _ h => h) rfl (RV.agg (i := 3) rfl ag69 sz69 rfl rfl rfl) ?_
    | refine TC.r1 (M' := M) (fn := Try.f77) (fun _ _ h => h) rfl (RV.agg (i := 4) rfl ag69 sz69 rfl rfl rfl) ?_
    | refine TC.r1 (M' := M) (fn := Try.f77) (fun _ _ h => h) rfl (RV.agg (i := 5) rfl ag69 sz69 rfl rfl rfl) ?_
  exact ⟨rfl, rfl⟩

/-- quorumite/mac.Of -/
theorem Of_fn (s who gen : Int) (M : Hp) : FnC Try.prog 37 #[.int .u64 s, .int .i64 who, .int .i64 gen] M (fun v M' => v = .agg #[.int .u64 (macKey s who gen).a, .int .u64 (macKey s who gen).b] ∧ M = M') := by
  refine FnC.intro Try.func37 rfl 15 rfl (by simp) (fun z => ?_)
  refine TC.env (E' := [(0, _), (1, _), (2, _)]) (Sub.cons rfl (Sub.cons rfl (Sub.cons rfl (Sub.nil _)))) ?_
  refine TC.sr ?_
  refine TL.d (Does.alloc ze69 rfl) ?_
  rintro _ _ ⟨b1, rfl, rfl⟩
  refine TL.nt ?_
  refine TC.sr ?_
  refine TL.v (Val.move rfl) ?_
  refine TL.d (Does.callF go77 rfl (Root_fn s _)) ?_
  rintro _ _ ⟨rfl, rfl⟩
  refine TL.v (Val.move rfl) ?_
  refine TL.v (Val.convI rfl iu3 in24 rfl) ?_
  refine TL.d (Does.callF go76 rfl (Derive_fn (rootK s) [119, 104, 111] (IntKind.u64.wrap who) _ (by decide))) ?_
  rintro _ _ ⟨rfl, rfl⟩
  refine TL.v (Val.move rfl) ?_
  refine TL.v (Val.convI rfl iu3 in24 rfl) ?_
  refine TL.d (Does.callF go76 rfl (Derive_fn (deriveK (rootK s) [119, 104, 111] (IntKind.u64.wrap who)) [103, 101, 110] (IntKind.u64.wrap gen) _ (by decide))) ?_
  rintro _ _ ⟨rfl, rfl⟩
  first
    | refine TL.d (Does.store (i := 0) rfl rfl rfl sz69 rfl rfl (by first | exact Nat.le_of_ble_eq_true rfl | decide | omega) rfl rfl) ?_
    | refine TL.d (Does.store (i := 1) rfl rfl rfl sz69 rfl rfl (by first | exact Nat.le_of_ble_eq_true rfl | decide | omega) rfl rfl) ?_
    | refine TL.d (Does.store (i := 2) rfl rfl rfl sz69 rfl rfl (by first | exact Nat.le_of_ble_eq_true rfl | decide | omega) rfl rfl) ?_
    | refine TL.d (Does.store (i := 3) rfl rfl rfl sz69 rfl rfl (by first | exact Nat.le_of_ble_eq_true rfl | decide | omega) rfl rfl) ?_
    | refine TL.d (Does.store (i := 4) rfl rfl rfl sz69 rfl rfl (by first | exact Nat.le_of_ble_eq_true rfl | decide | omega) rfl rfl) ?_
    | refine TL.d (Does.store (i := 5) rfl rfl rfl sz69 rfl rfl (by first | exact Nat.le_of_ble_eq_true rfl | decide | omega) rfl rfl) ?_
  rintro _ _ ⟨rfl, rfl⟩
  refine TL.nt ?_
  refine TC.en (E' := [(6, _)]) ?_
  first
    | refine TC.r1 (M' := M) (fn := Try.f37) (fun _ _ h => h) rfl (RV.agg (i := 0) rfl ag69 sz69 rfl rfl rfl) ?_
    | refine TC.r1 (M' := M) (fn := Try.f37) (fun _ _ h => h) rfl (RV.agg (i := 1) rfl ag69 sz69 rfl rfl rfl) ?_
    | refine TC.r1 (M' := M) (fn := Try.f37) (fun _ _ h => h) rfl (RV.agg (i := 2) rfl ag69 sz69 rfl rfl rfl) ?_
    | refine TC.r1 (M' := M) (fn := Try.f37) (fun _ _ h => h) rfl (RV.agg (i := 3) rfl ag69 sz69 rfl rfl rfl) ?_
    | refine TC.r1 (M' := M) (fn := Try.f37) (fun _ _ h => h) rfl (RV.agg (i := 4) rfl ag69 sz69 rfl rfl rfl) ?_
    | refine TC.r1 (M' := M) (fn := Try.f37) (fun _ _ h => h) rfl (RV.agg (i := 5) rfl ag69 sz69 rfl rfl rfl) ?_
  exact ⟨rfl, rfl⟩

/-- quorumite/mac.Tag -/
theorem Tag_fn (k : K2) (l : List UInt8) (A : Option Addr) (n c : Nat) (M : Hp) (hA : RdS M A (bv l)) (hn : n = l.length) (hl : l.length ≤ 1000) : FnC Try.prog 40 #[.agg #[.int .u64 k.a, .int .u64 k.b], .slice A n c] M (fun v M' => v = .agg #[.int .u64 (tagOf k l).a, .int .u64 (tagOf k l).b] ∧ M = M') := by
  subst hn
  refine FnC.intro Try.func40 rfl 17 rfl (by simp) (fun z => ?_)
  refine TC.env (E' := [(0, _), (1, _)]) (Sub.cons rfl (Sub.cons rfl (Sub.nil _))) ?_
  refine TC.sr ?_
  refine TL.d (Does.box rfl rfl) ?_
  rintro _ _ ⟨b1, rfl, rfl⟩
  refine TL.d (Does.alloc ze73 rfl) ?_
  rintro _ _ ⟨b2, rfl, rfl⟩
  refine TL.nt ?_
  refine TC.seq ?_
  refine TC.drawL ((b1, .cells #[.int .u64 k.a, .int .u64 k.b] 69 (0, 0)) :: M) mixed 13 ?_
  first
    | refine TA.tk 0 1 rfl rfl rfl (Val.loadAgg 0 rfl ag69 sz69 rfl rfl rfl) ?_
    | refine TA.tk 0 1 rfl rfl rfl (Val.loadAgg 1 rfl ag69 sz69 rfl rfl rfl) ?_
    | refine TA.tk 0 1 rfl rfl rfl (Val.loadAgg 2 rfl ag69 sz69 rfl rfl rfl) ?_
    | refine TA.tk 0 1 rfl rfl rfl (Val.loadAgg 3 rfl ag69 sz69 rfl rfl rfl) ?_
    | refine TA.tk 0 1 rfl rfl rfl (Val.loadAgg 4 rfl ag69 sz69 rfl rfl rfl) ?_
    | refine TA.tk 0 1 rfl rfl rfl (Val.loadAgg 5 rfl ag69 sz69 rfl rfl rfl) ?_
  refine TA.tk 1 3 rfl rfl rfl (Val.move rfl) ?_
  refine TA.tk 3 11 rfl rfl rfl (Val.indexAddrA (i := 1) rfl rfl ar69 sz24 rfl (by first | decide | omega) rfl) ?_
  first
    | refine TA.tk 4 27 rfl rfl rfl (Val.load 0 rfl ag24 rfl rfl) ?_
    | refine TA.tk 4 27 rfl rfl rfl (Val.load 1 rfl ag24 rfl rfl) ?_
    | refine TA.tk 4 27 rfl rfl rfl (Val.load 2 rfl ag24 rfl rfl) ?_
    | refine TA.tk 4 27 rfl rfl rfl (Val.load 3 rfl ag24 rfl rfl) ?_
    | refine TA.tk 4 27 rfl rfl rfl (Val.load 4 rfl ag24 rfl rfl) ?_
    | refine TA.tk 4 27 rfl rfl rfl (Val.load 5 rfl ag24 rfl rfl) ?_
  refine TA.tk 5 59 rfl rfl rfl (Val.indexAddrA (i := 0) rfl rfl ar69 sz24 rfl (by first | decide | omega) rfl) ?_
  first
    | refine TA.tk 6 123 rfl rfl rfl (Val.load 0 rfl ag24 rfl rfl) ?_
    | refine TA.tk 6 123 rfl rfl rfl (Val.load 1 rfl ag24 rfl rfl) ?_
    | refine TA.tk 6 123 rfl rfl rfl (Val.load 2 rfl ag24 rfl rfl) ?_
    | refine TA.tk 6 123 rfl rfl rfl (Val.load 3 rfl ag24 rfl rfl) ?_
    | refine TA.tk 6 123 rfl rfl rfl (Val.load 4 rfl ag24 rfl rfl) ?_
    | refine TA.tk 6 123 rfl rfl rfl (Val.load 5 rfl ag24 rfl rfl) ?_
  refine TA.tk 7 251 rfl rfl rfl (Val.xorU rfl (r := not64 k.a) rfl) ?_
  refine TA.tk 8 507 rfl rfl rfl (Val.buildA ar69 sz24 ze69 rfl rfl) ?_
  refine TA.tk 9 1019 rfl rfl rfl (Val.move rfl) ?_
  refine TA.one 2 (by kernel_rfl) ?_
  refine TO.dz 1023 (some 7) rfl rfl rfl rfl (Does.callF go79 rfl (sipSum_fn k l _ _ _ _ ((hA.cons _).cons _) rfl hl)) ?_
  rintro _ _ ⟨rfl, rfl⟩
  refine roK ?_
  refine TA.one 10 (by kernel_rfl) ?_
  refine TO.dz 2047 (some 15) rfl rfl rfl rfl (Does.callF go79 rfl (sipSum_fn ⟨k.b, not64 k.a⟩ l _ _ _ _ ((hA.cons _).cons _) rfl hl)) ?_
  rintro _ _ ⟨rfl, rfl⟩
  refine roK ?_
  refine TA.tk 11 4095 rfl rfl rfl (Val.buildA ar73 sz24 ze73 rfl rfl) ?_
  refine TA.one 12 (by kernel_rfl) ?_
  first
    | refine TO.dz 8191 none rfl rfl rfl rfl (Does.store (i := 0) rfl rfl rfl sz73 rfl rfl (by first | exact Nat.le_of_ble_eq_true rfl | decide | omega) rfl rfl) ?_
    | refine TO.dz 8191 none rfl rfl rfl rfl (Does.store (i := 1) rfl rfl rfl sz73 rfl rfl (by first | exact Nat.le_of_ble_eq_true rfl | decide | omega) rfl rfl) ?_
    | refine TO.dz 8191 none rfl rfl rfl rfl (Does.store (i := 2) rfl rfl rfl sz73 rfl rfl (by first | exact Nat.le_of_ble_eq_true rfl | decide | omega) rfl rfl) ?_
    | refine TO.dz 8191 none rfl rfl rfl rfl (Does.store (i := 3) rfl rfl rfl sz73 rfl rfl (by first | exact Nat.le_of_ble_eq_true rfl | decide | omega) rfl rfl) ?_
    | refine TO.dz 8191 none rfl rfl rfl rfl (Does.store (i := 4) rfl rfl rfl sz73 rfl rfl (by first | exact Nat.le_of_ble_eq_true rfl | decide | omega) rfl rfl) ?_
    | refine TO.dz 8191 none rfl rfl rfl rfl (Does.store (i := 5) rfl rfl rfl sz73 rfl rfl (by first | exact Nat.le_of_ble_eq_true rfl | decide | omega) rfl rfl) ?_
  rintro _ _ ⟨rfl, rfl⟩
  refine roK ?_
  refine TA.done (by kernel_rfl) ?_
  refine AtX.then ?_
  refine TC.en (E' := [(4, _)]) ?_
  first
    | refine TC.r1 (M' := M) (fn := Try.f40) (fun _ _ h => h) rfl (RV.agg (i := 0) rfl ag73 sz73 rfl rfl rfl) ?_
    | refine TC.r1 (M' := M) (fn := Try.f40) (fun _ _ h => h) rfl (RV.agg (i := 1) rfl ag73 sz73 rfl rfl rfl) ?_
    | refine TC.r1 (M' := M) (fn := Try.f40) (fun _ _ h => h) rfl (RV.agg (i := 2) rfl ag73 sz73 rfl rfl rfl) ?_
    | refine TC.r1 (M' := M) (fn := Try.f40) (fun _ _ h => h) rfl (RV.agg (i := 3) rfl ag73 sz73 rfl rfl rfl) ?_
    | refine TC.r1 (M' := M) (fn := Try.f40) (fun _ _ h => h) rfl (RV.agg (i := 4) rfl ag73 sz73 rfl rfl rfl) ?_
    | refine TC.r1 (M' := M) (fn := Try.f40) (fun _ _ h => h) rfl (RV.agg (i := 5) rfl ag73 sz73 rfl rfl rfl) ?_
  exact ⟨rfl, rfl⟩

/-- quorumite/mac.Bytes -/
theorem Bytes_fn (t : K2) (M : Hp) : FnC Try.prog 75 #[.agg #[.int .u64 t.a, .int .u64 t.b]] M (fun v M' => ∃ b c sp, v = .slice (some ⟨b, 0, none⟩) 16 c ∧ 16 + sp.length = c ∧ M' = (b, row 5 (bv (tagB t) ++ sp)) :: M) := by
  refine FnC.intro Try.func75 rfl 10 rfl (by simp) (fun z => ?_)
  refine TC.env (E' := [(0, _)]) (Sub.cons rfl (Sub.nil _)) ?_
  refine TC.sr ?_
  refine TL.d (Does.box rfl rfl) ?_
  rintro _ _ ⟨b1, rfl, rfl⟩
  refine TL.v (Val.assign rfl) ?_
  refine TL.nt ?_
  refine TC.seq ?_
  refine TC.drawL ((b1, .cells #[.int .u64 t.a, .int .u64 t.b] 73 (0, 0)) :: M) mixed 8 ?_
  refine TA.tk 0 1 rfl rfl rfl (Val.indexAddrA (i := 0) rfl rfl ar73 sz24 rfl (by first | decide | omega) rfl) ?_
  first
    | refine TA.tk 1 3 rfl rfl rfl (Val.load 0 rfl ag24 rfl rfl) ?_
    | refine TA.tk 1 3 rfl rfl rfl (Val.load 1 rfl ag24 rfl rfl) ?_
    | refine TA.tk 1 3 rfl rfl rfl (Val.load 2 rfl ag24 rfl rfl) ?_
    | refine TA.tk 1 3 rfl rfl rfl (Val.load 3 rfl ag24 rfl rfl) ?_
    | refine TA.tk 1 3 rfl rfl rfl (Val.load 4 rfl ag24 rfl rfl) ?_
    | refine TA.tk 1 3 rfl rfl rfl (Val.load 5 rfl ag24 rfl rfl) ?_
  refine TA.tk 3 11 rfl rfl rfl (Val.indexAddrA (i := 1) rfl rfl ar73 sz24 rfl (by first | decide | omega) rfl) ?_
  first
    | refine TA.tk 4 27 rfl rfl rfl (Val.load 0 rfl ag24 rfl rfl) ?_
    | refine TA.tk 4 27 rfl rfl rfl (Val.load 1 rfl ag24 rfl rfl) ?_
    | refine TA.tk 4 27 rfl rfl rfl (Val.load 2 rfl ag24 rfl rfl) ?_
    | refine TA.tk 4 27 rfl rfl rfl (Val.load 3 rfl ag24 rfl rfl) ?_
    | refine TA.tk 4 27 rfl rfl rfl (Val.load 4 rfl ag24 rfl rfl) ?_
    | refine TA.tk 4 27 rfl rfl rfl (Val.load 5 rfl ag24 rfl rfl) ?_
  refine TA.one 2 (by kernel_rfl) ?_
  refine TO.dz 31 (some 5) rfl rfl rfl rfl (Does.callF go78 rfl (sipPut_fn _ _)) ?_
  rintro _ _ ⟨bP, cP, spP, rfl, hcP, rfl⟩
  refine roK ?_
  refine TA.one 5 (by kernel_rfl) ?_
  refine TO.dz 63 (some 8) rfl rfl rfl rfl (Does.callF go78 rfl (sipPut_fn _ _)) ?_
  rintro _ _ ⟨bQ, cQ, spQ, rfl, hcQ, rfl⟩
  refine roK ?_
  refine TA.one 6 (by kernel_rfl) ?_
  refine TO.dz 127 (some 9) rfl rfl rfl rfl (Does.appendS (xs := bv (put8 t.a)) (ys := bv (put8 t.b)) (some (bP, cP, spP)) ((b1, .cells #[.int .u64 t.a, .int .u64 t.b] 73 (0, 0)) :: M) (ro_tail ro_refl) rfl rfl sl37 sz5 by5 ze5 rfl ⟨by simp, by simpa using hcP⟩ (srcB us37 (rd_all (i := 0) rfl)) (by simp) (bv_one _) (by omega) (by omega)) ?_
  rintro _ _ ⟨σ, rfl, hok, rfl⟩
  obtain ⟨b, c, sp, rfl, hc⟩ := hok.some (by omega)
  rw [← bv_append]
  refine roK ?_
  refine TA.tk 7 255 rfl rfl rfl (Val.assign rfl) ?_
  refine TA.done (by kernel_rfl) ?_
  refine AtX.then ?_
  refine TC.en (E' := [(2, _)]) ?_
  refine TC.r1 (hM := (fun w h => ro_del 1 rfl w h)) (M' := (b, row 5 (bv (tagB t) ++ sp)) :: M) (fn := Try.f75) (fun _ _ h => h) rfl (RV.tmp rfl) ?_
  exact ⟨b, c, sp, rfl, by simpa using hc, rfl⟩

end Go.Proofs.Ytphoapajlcaoeaa
/- walks -/
set_option linter.unusedVariables false
set_option linter.unusedSimpArgs false
set_option maxRecDepth 100000
set_option maxHeartbeats 4000000
namespace Go.Proofs.Ytphoapajlcaoeaa
open Go Go.X
/-- quorumite/conf.Default -/
theorem Default_fn (M : Hp) : FnC Try.prog 45 #[] M (fun v M' => v = .agg cfD.cs ∧ M = M') := by
  refine FnC.intro Try.func45 rfl 3 rfl (by simp) (fun z => ?_)
  refine TC.env (E' := []) (Sub.nil _) ?_
  refine TC.seq ?_
  refine TC.region ?_
  refine TL.does (some 0) rfl rfl rfl (Does.alloc ze26 rfl) ?_
  rintro _ _ ⟨b1, rfl, rfl⟩
  refine TL.nil ?_
  refine AtX.then ?_
  refine TC.seq ?_
  refine TC.region ?_
  refine TL.val rfl rfl (Nat.le_of_ble_eq_true rfl) (Val.buildA ar23 sz2 ze23 rfl rfl) ?_
  refine TL.val rfl rfl (Nat.le_of_ble_eq_true rfl) (Val.buildS pl26 ze26 rfl rfl) ?_
  refine TL.does none rfl rfl rfl (Does.store (i := 0) rfl rfl rfl sz26 rfl rfl (by first | exact Nat.le_of_ble_eq_true rfl | decide | omega) rfl rfl) ?_
  rintro _ _ ⟨rfl, rfl⟩
  refine TL.nil ?_
  refine AtX.then ?_
  refine TC.env (E' := [(0, _)]) (Sub.cons rfl (Sub.nil _)) ?_
  refine TC.ret1 (fn := Try.f45) (fun _ _ h => h) rfl (RV.agg (i := 0) rfl ag26 sz26 rfl rfl rfl) (M' := M) (by repeat (first | exact ro_refl | exact ro_pre | refine ro_tail ?_ | refine ro_app ?_)) ?_
  exact ⟨rfl, rfl⟩

/-- quorumite/quorumiteref1.Default -/
theorem refDefault_fn (M : Hp) : FnC Try.prog 43 #[] M (fun v M' => v = .agg cfD.cs ∧ M = M') := by
  refine FnC.intro Try.func43 rfl 3 rfl (by simp) (fun z => ?_)
  refine TC.env (E' := []) (Sub.nil _) ?_
  refine TC.seq ?_
  refine TC.region ?_
  refine TL.does (some 0) rfl rfl rfl (Does.alloc ze26 rfl) ?_
  rintro _ _ ⟨b1, rfl, rfl⟩
  refine TL.nil ?_
  refine AtX.then ?_
  refine TC.seq ?_
  refine TC.region ?_
  refine TL.val rfl rfl (Nat.le_of_ble_eq_true rfl) (Val.buildA ar23 sz2 ze23 rfl rfl) ?_
  refine TL.val rfl rfl (Nat.le_of_ble_eq_true rfl) (Val.buildS pl26 ze26 rfl rfl) ?_
  refine TL.does none rfl rfl rfl (Does.store (i := 0) rfl rfl rfl sz26 rfl rfl (by first | exact Nat.le_of_ble_eq_true rfl | decide | omega) rfl rfl) ?_
  rintro _ _ ⟨rfl, rfl⟩
  refine TL.nil ?_
  refine AtX.then ?_
  refine TC.env (E' := [(0, _)]) (Sub.cons rfl (Sub.nil _)) ?_
  refine TC.ret1 (fn := Try.f43) (fun _ _ h => h) rfl (RV.agg (i := 0) rfl ag26 sz26 rfl rfl rfl) (M' := M) (by repeat (first | exact ro_refl | exact ro_pre | refine ro_tail ?_ | refine ro_app ?_)) ?_
  exact ⟨rfl, rfl⟩

/-- quorumite/conf.targets -/
theorem targets_fn (c : Cf) (M : Hp) (ht : tg c) : FnC Try.prog 118 #[.agg #[.int .i64 (c.n), .int .i64 (c.f), .int .i64 (c.m), .int .i64 (c.quorum), .int .i64 (c.fresh), .int .i64 (c.grace), .int .i64 (c.window), .int .i64 (c.t0), .int .i64 (c.t1), .int .i64 (c.t2), .int .i64 (c.t3), .int .i64 (c.tol), .int .i64 (c.min), .int .i64 (c.max), .int .i64 (c.calmup), .int .i64 (c.calmdown), .int .i64 (c.podsup), .int .i64 (c.pctup), .int .i64 (c.podsdown), .int .i64 (c.pctdown), .int .i64 (c.period), .int .i64 (c.far), .int .i64 (c.strikes), .int .i64 (c.probe), .int .i64 (c.sectors), .int .u64 (c.seed)]] M (fun v M' => v = .int .i64 1 ∧ M = M') := by
  refine FnC.intro Try.func118 rfl 34 rfl (by simp) (fun z => ?_)
  refine TC.env (E' := [(0, _)]) (Sub.cons rfl (Sub.nil _)) ?_
  refine TC.seq ?_
  refine TC.region ?_
  refine TL.does (some 1) rfl rfl rfl (Does.box rfl rfl) ?_
  rintro _ _ ⟨b1, rfl, rfl⟩
  refine TL.val rfl rfl (Nat.le_of_ble_eq_true rfl) (Val.assign rfl) ?_
  refine TL.nil ?_
  refine AtX.then ?_
  refine TC.env (E' := [(1, _), (2, _)]) (Sub.cons rfl (Sub.cons rfl (Sub.nil _))) ?_
  refine TC.seq ?_
  refine TC.seq ?_
  refine TC.region ?_
  refine TL.val rfl rfl (Nat.le_of_ble_eq_true rfl) (Val.fieldAddr rfl fl26_7 sz23 rfl) ?_
  refine TL.val rfl rfl (Nat.le_of_ble_eq_true rfl) (Val.loadAgg 0 rfl ag23 sz23 rfl rfl rfl) ?_
  refine TL.val rfl rfl (Nat.le_of_ble_eq_true rfl) (Val.move rfl) ?_
  refine TL.nil ?_
  refine AtX.then ?_
  refine TC.env (E' := [(1, _), (2, _), (6, _), (7, _)]) (Sub.cons rfl (Sub.cons rfl (Sub.cons rfl (Sub.cons rfl (Sub.nil _))))) ?_
  refine TC.block ?_
  refine TC.loop (ι := Nat) (fun k => [(1, .pointer (some ⟨b1, 0, none⟩)), (6, .agg (c.ts.map (Value.int .i64)).toArray), (7, .int .i64 (k : Nat))]) (fun _ => ((b1, .cells #[.int .i64 (c.n), .int .i64 (c.f), .int .i64 (c.m), .int .i64 (c.quorum), .int .i64 (c.fresh), .int .i64 (c.grace), .int .i64 (c.window), .int .i64 (c.t0), .int .i64 (c.t1), .int .i64 (c.t2), .int .i64 (c.t3), .int .i64 (c.tol), .int .i64 (c.min), .int .i64 (c.max), .int .i64 (c.calmup), .int .i64 (c.calmdown), .int .i64 (c.podsup), .int .i64 (c.pctup), .int .i64 (c.podsdown), .int .i64 (c.pctdown), .int .i64 (c.period), .int .i64 (c.far), .int .i64 (c.strikes), .int .i64 (c.probe), .int .i64 (c.sectors), .int .u64 (c.seed)] 26 (0, 0)) :: M)) (fun k => k ≤ 4) (fun k => 4 - k) 0 ?_ (Sub.cons rfl (Sub.cons rfl (Sub.cons rfl (Sub.nil _)))) (fun _ h => h) ?_
  · exact Nat.zero_le _
  intro k hk
  refine TC.seq ?_
  refine TC.region ?_
  refine TL.val rfl rfl (Nat.le_of_ble_eq_true rfl) (Val.lss rfl rfl) ?_
  refine TL.nil ?_
  refine AtX.then ?_
  refine TC.seq ?_
  first | refine TC.condP rfl (fun c1 => ?_) (fun c1 => ?_) | refine TC.condN rfl (fun c1 => ?_) (fun c1 => ?_) | refine TC.condB rfl (fun c1 => ?_) (fun c1 => ?_) | refine TC.cond rfl (fun c1 => ?_) (fun c1 => ?_)
  · skip
    refine TC.skip ?_
    refine AtX.then ?_
    refine TC.seq ?_
    refine TC.block ?_
    refine TC.seq ?_
    have hk4 : k < 4 := by omega
    obtain ⟨x, hx⟩ : ∃ x, c.ts[k]? = some x := ⟨_, List.getElem?_eq_getElem (by show k < 4; omega)⟩
    have hx2 := ht k x hx
    refine TC.region ?_
    refine TL.val rfl rfl (Nat.le_of_ble_eq_true rfl) (Val.move rfl) ?_
    refine TL.val rfl rfl (Nat.le_of_ble_eq_true rfl) (Val.indexA (i := k) rfl rfl ar23 sz2 ag2 rfl hk4 (v := .int .i64 x) (by rw [Nat.mul_one]; exact nth_map hx)) ?_
    refine TL.val rfl rfl (Nat.le_of_ble_eq_true rfl) (Val.assign rfl) ?_
    refine TL.val rfl rfl (Nat.le_of_ble_eq_true rfl) (Val.assign rfl) ?_
    refine TL.nil ?_
    refine AtX.then ?_
    refine TC.seq ?_
    refine TC.region ?_
    refine TL.val rfl rfl (Nat.le_of_ble_eq_true rfl) (Val.move rfl) ?_
    refine TL.val rfl rfl (Nat.le_of_ble_eq_true rfl) (Val.fieldAddr rfl fl26_2 sz3 rfl) ?_
    refine TL.val rfl rfl (Nat.le_of_ble_eq_true rfl) (Val.load 0 rfl ag3 rfl rfl) ?_
    refine TL.val rfl rfl (Nat.le_of_ble_eq_true rfl) (Val.lss rfl rfl) ?_
    refine TL.val rfl rfl (Nat.le_of_ble_eq_true rfl) (Val.move rfl) ?_
    refine TL.gen (fun g2 hg2 => ?_)
    cases g2 with
    | false =>
      refine TL.pass rfl rfl (Nat.le_of_ble_eq_true rfl) rfl (Nat.le_of_ble_eq_true rfl) rfl rfl ?_
      refine TL.pass rfl rfl (Nat.le_of_ble_eq_true rfl) rfl (Nat.le_of_ble_eq_true rfl) rfl rfl ?_
      refine TL.pass rfl rfl (Nat.le_of_ble_eq_true rfl) rfl (Nat.le_of_ble_eq_true rfl) rfl rfl ?_
      refine TL.passU rfl rfl (Nat.le_of_ble_eq_true rfl) rfl (Nat.le_of_ble_eq_true rfl) rfl ?_
      refine TL.passU rfl rfl (Nat.le_of_ble_eq_true rfl) rfl (Nat.le_of_ble_eq_true rfl) rfl ?_
      refine TL.pass rfl rfl (Nat.le_of_ble_eq_true rfl) rfl (Nat.le_of_ble_eq_true rfl) rfl rfl ?_
      refine TL.val rfl rfl (Nat.le_of_ble_eq_true rfl) (Val.pick rfl rfl rfl) ?_
      refine TL.val rfl rfl (Nat.le_of_ble_eq_true rfl) (Val.move rfl) ?_
      refine TL.gen (fun g3 hg3 => ?_)
      cases g3 with
      | false =>
        refine TL.valYes rfl rfl (Nat.le_of_ble_eq_true rfl) rfl (Nat.le_of_ble_eq_true rfl) rfl (Val.move rfl) ?_
        refine TL.valYes rfl rfl (Nat.le_of_ble_eq_true rfl) rfl (Nat.le_of_ble_eq_true rfl) rfl (Val.fieldAddr rfl fl26_2 sz3 rfl) ?_
        refine TL.valYes rfl rfl (Nat.le_of_ble_eq_true rfl) rfl (Nat.le_of_ble_eq_true rfl) rfl (Val.load 0 rfl ag3 rfl rfl) ?_
        refine TL.valYes rfl rfl (Nat.le_of_ble_eq_true rfl) rfl (Nat.le_of_ble_eq_true rfl) rfl (Val.geq rfl rfl) ?_
        refine TL.valYes rfl rfl (Nat.le_of_ble_eq_true rfl) rfl (Nat.le_of_ble_eq_true rfl) rfl (Val.move rfl) ?_
        refine TL.gen (fun g4 hg4 => ?_)
        refine TL.gval rfl rfl (Nat.le_of_ble_eq_true rfl) rfl (Nat.le_of_ble_eq_true rfl) rfl (fun hg => by subst hg; exact (Val.move rfl)) ?_
        refine TL.gval rfl rfl (Nat.le_of_ble_eq_true rfl) rfl (Nat.le_of_ble_eq_true rfl) rfl (fun hg => by subst hg; exact (Val.neqI rfl rfl)) ?_
        refine TL.valYes rfl rfl (Nat.le_of_ble_eq_true rfl) rfl (Nat.le_of_ble_eq_true rfl) rfl (Val.pickAnd rfl rfl rfl) ?_
        refine TL.val rfl rfl (Nat.le_of_ble_eq_true rfl) (Val.pickOr rfl rfl rfl) ?_
        refine TL.nil ?_
        refine AtX.then ?_
        first | refine TC.condP rfl (fun c2 => ?_) (fun c2 => ?_) | refine TC.condN rfl (fun c2 => ?_) (fun c2 => ?_) | refine TC.condB rfl (fun c2 => ?_) (fun c2 => ?_) | refine TC.cond rfl (fun c2 => ?_) (fun c2 => ?_)
        · skip
          (exfalso; clear ht hx; grind)
        · skip
          refine TC.skip ?_
          refine AtX.blk ?_
          refine AtX.then ?_
          refine TC.region ?_
          refine TL.val rfl rfl (Nat.le_of_ble_eq_true rfl) (Val.add rfl rfl (w_i64 (by omega) (by omega))) ?_
          refine TL.val rfl rfl (Nat.le_of_ble_eq_true rfl) (Val.move rfl) ?_
          refine TL.nil ?_
          refine AtX.round (k + 1) ?_ ?_ (Sub.cons rfl (Sub.cons rfl (Sub.cons rfl (Sub.nil _)))) (fun _ h => h)
          · omega
          · omega
      | true =>
        refine TL.pass rfl rfl (Nat.le_of_ble_eq_true rfl) rfl (Nat.le_of_ble_eq_true rfl) rfl rfl ?_
        refine TL.pass rfl rfl (Nat.le_of_ble_eq_true rfl) rfl (Nat.le_of_ble_eq_true rfl) rfl rfl ?_
        refine TL.pass rfl rfl (Nat.le_of_ble_eq_true rfl) rfl (Nat.le_of_ble_eq_true rfl) rfl rfl ?_
        refine TL.pass rfl rfl (Nat.le_of_ble_eq_true rfl) rfl (Nat.le_of_ble_eq_true rfl) rfl rfl ?_
        refine TL.pass rfl rfl (Nat.le_of_ble_eq_true rfl) rfl (Nat.le_of_ble_eq_true rfl) rfl rfl ?_
        refine TL.passU rfl rfl (Nat.le_of_ble_eq_true rfl) rfl (Nat.le_of_ble_eq_true rfl) rfl ?_
        refine TL.passU rfl rfl (Nat.le_of_ble_eq_true rfl) rfl (Nat.le_of_ble_eq_true rfl) rfl ?_
        refine TL.pass rfl rfl (Nat.le_of_ble_eq_true rfl) rfl (Nat.le_of_ble_eq_true rfl) rfl rfl ?_
        refine TL.val rfl rfl (Nat.le_of_ble_eq_true rfl) (Val.pick rfl rfl rfl) ?_
        refine TL.nil ?_
        refine AtX.then ?_
        first | refine TC.condP rfl (fun c3 => ?_) (fun c3 => ?_) | refine TC.condN rfl (fun c3 => ?_) (fun c3 => ?_) | refine TC.condB rfl (fun c3 => ?_) (fun c3 => ?_) | refine TC.cond rfl (fun c3 => ?_) (fun c3 => ?_)
        · skip
          (exfalso; clear ht hx; grind)
        · skip
          refine TC.skip ?_
          refine AtX.blk ?_
          refine AtX.then ?_
          refine TC.region ?_
          refine TL.val rfl rfl (Nat.le_of_ble_eq_true rfl) (Val.add rfl rfl (w_i64 (by omega) (by omega))) ?_
          refine TL.val rfl rfl (Nat.le_of_ble_eq_true rfl) (Val.move rfl) ?_
          refine TL.nil ?_
          refine AtX.round (k + 1) ?_ ?_ (Sub.cons rfl (Sub.cons rfl (Sub.cons rfl (Sub.nil _)))) (fun _ h => h)
          · omega
          · omega
    | true =>
      refine TL.valYes rfl rfl (Nat.le_of_ble_eq_true rfl) rfl (Nat.le_of_ble_eq_true rfl) rfl (Val.move rfl) ?_
      refine TL.valYes rfl rfl (Nat.le_of_ble_eq_true rfl) rfl (Nat.le_of_ble_eq_true rfl) rfl (Val.lss rfl rfl) ?_
      refine TL.valYes rfl rfl (Nat.le_of_ble_eq_true rfl) rfl (Nat.le_of_ble_eq_true rfl) rfl (Val.move rfl) ?_
      refine TL.gen (fun g5 hg5 => ?_)
      refine TL.gval rfl rfl (Nat.le_of_ble_eq_true rfl) rfl (Nat.le_of_ble_eq_true rfl) rfl (fun hg => by subst hg; exact (Val.move rfl)) ?_
      refine TL.gval rfl rfl (Nat.le_of_ble_eq_true rfl) rfl (Nat.le_of_ble_eq_true rfl) rfl (fun hg => by subst hg; exact (Val.gtr rfl rfl)) ?_
      refine TL.valYes rfl rfl (Nat.le_of_ble_eq_true rfl) rfl (Nat.le_of_ble_eq_true rfl) rfl (Val.pickOr rfl rfl rfl) ?_
      refine TL.val rfl rfl (Nat.le_of_ble_eq_true rfl) (Val.pickAnd rfl rfl rfl) ?_
      refine TL.val rfl rfl (Nat.le_of_ble_eq_true rfl) (Val.move rfl) ?_
      refine TL.gen (fun g6 hg6 => ?_)
      cases g6 with
      | false =>
        refine TL.valYes rfl rfl (Nat.le_of_ble_eq_true rfl) rfl (Nat.le_of_ble_eq_true rfl) rfl (Val.move rfl) ?_
        refine TL.valYes rfl rfl (Nat.le_of_ble_eq_true rfl) rfl (Nat.le_of_ble_eq_true rfl) rfl (Val.fieldAddr rfl fl26_2 sz3 rfl) ?_
        refine TL.valYes rfl rfl (Nat.le_of_ble_eq_true rfl) rfl (Nat.le_of_ble_eq_true rfl) rfl (Val.load 0 rfl ag3 rfl rfl) ?_
        refine TL.valYes rfl rfl (Nat.le_of_ble_eq_true rfl) rfl (Nat.le_of_ble_eq_true rfl) rfl (Val.geq rfl rfl) ?_
        refine TL.valYes rfl rfl (Nat.le_of_ble_eq_true rfl) rfl (Nat.le_of_ble_eq_true rfl) rfl (Val.move rfl) ?_
        refine TL.gen (fun g7 hg7 => ?_)
        refine TL.gval rfl rfl (Nat.le_of_ble_eq_true rfl) rfl (Nat.le_of_ble_eq_true rfl) rfl (fun hg => by subst hg; exact (Val.move rfl)) ?_
        refine TL.gval rfl rfl (Nat.le_of_ble_eq_true rfl) rfl (Nat.le_of_ble_eq_true rfl) rfl (fun hg => by subst hg; exact (Val.neqI rfl rfl)) ?_
        refine TL.valYes rfl rfl (Nat.le_of_ble_eq_true rfl) rfl (Nat.le_of_ble_eq_true rfl) rfl (Val.pickAnd rfl rfl rfl) ?_
        refine TL.val rfl rfl (Nat.le_of_ble_eq_true rfl) (Val.pickOr rfl rfl rfl) ?_
        refine TL.nil ?_
        refine AtX.then ?_
        first | refine TC.condP rfl (fun c4 => ?_) (fun c4 => ?_) | refine TC.condN rfl (fun c4 => ?_) (fun c4 => ?_) | refine TC.condB rfl (fun c4 => ?_) (fun c4 => ?_) | refine TC.cond rfl (fun c4 => ?_) (fun c4 => ?_)
        · skip
          (exfalso; clear ht hx; grind)
        · skip
          refine TC.skip ?_
          refine AtX.blk ?_
          refine AtX.then ?_
          refine TC.region ?_
          refine TL.val rfl rfl (Nat.le_of_ble_eq_true rfl) (Val.add rfl rfl (w_i64 (by omega) (by omega))) ?_
          refine TL.val rfl rfl (Nat.le_of_ble_eq_true rfl) (Val.move rfl) ?_
          refine TL.nil ?_
          refine AtX.round (k + 1) ?_ ?_ (Sub.cons rfl (Sub.cons rfl (Sub.cons rfl (Sub.nil _)))) (fun _ h => h)
          · omega
          · omega
      | true =>
        refine TL.pass rfl rfl (Nat.le_of_ble_eq_true rfl) rfl (Nat.le_of_ble_eq_true rfl) rfl rfl ?_
        refine TL.pass rfl rfl (Nat.le_of_ble_eq_true rfl) rfl (Nat.le_of_ble_eq_true rfl) rfl rfl ?_
        refine TL.pass rfl rfl (Nat.le_of_ble_eq_true rfl) rfl (Nat.le_of_ble_eq_true rfl) rfl rfl ?_
        refine TL.pass rfl rfl (Nat.le_of_ble_eq_true rfl) rfl (Nat.le_of_ble_eq_true rfl) rfl rfl ?_
        refine TL.pass rfl rfl (Nat.le_of_ble_eq_true rfl) rfl (Nat.le_of_ble_eq_true rfl) rfl rfl ?_
        refine TL.passU rfl rfl (Nat.le_of_ble_eq_true rfl) rfl (Nat.le_of_ble_eq_true rfl) rfl ?_
        refine TL.passU rfl rfl (Nat.le_of_ble_eq_true rfl) rfl (Nat.le_of_ble_eq_true rfl) rfl ?_
        refine TL.pass rfl rfl (Nat.le_of_ble_eq_true rfl) rfl (Nat.le_of_ble_eq_true rfl) rfl rfl ?_
        refine TL.val rfl rfl (Nat.le_of_ble_eq_true rfl) (Val.pick rfl rfl rfl) ?_
        refine TL.nil ?_
        refine AtX.then ?_
        first | refine TC.condP rfl (fun c5 => ?_) (fun c5 => ?_) | refine TC.condN rfl (fun c5 => ?_) (fun c5 => ?_) | refine TC.condB rfl (fun c5 => ?_) (fun c5 => ?_) | refine TC.cond rfl (fun c5 => ?_) (fun c5 => ?_)
        · skip
          (exfalso; clear ht hx; grind)
        · skip
          refine TC.skip ?_
          refine AtX.blk ?_
          refine AtX.then ?_
          refine TC.region ?_
          refine TL.val rfl rfl (Nat.le_of_ble_eq_true rfl) (Val.add rfl rfl (w_i64 (by omega) (by omega))) ?_
          refine TL.val rfl rfl (Nat.le_of_ble_eq_true rfl) (Val.move rfl) ?_
          refine TL.nil ?_
          refine AtX.round (k + 1) ?_ ?_ (Sub.cons rfl (Sub.cons rfl (Sub.cons rfl (Sub.nil _)))) (fun _ h => h)
          · omega
          · omega
  · skip
    refine TC.exit ?_
    refine AtX.seqX ?_
    refine AtX.seqX ?_
    refine AtX.hit ?_
    refine AtX.then ?_
    refine TC.env (E' := []) (Sub.nil _) ?_
    refine TC.seq ?_
    refine TC.region ?_
    refine TL.val rfl rfl (Nat.le_of_ble_eq_true rfl) (Val.assign rfl) ?_
    refine TL.nil ?_
    refine AtX.then ?_
    refine TC.env (E' := [(2, _)]) (Sub.cons rfl (Sub.nil _)) ?_
    refine TC.ret1 (fn := Try.f118) (fun _ _ h => h) rfl (RV.tmp rfl) (M' := M) (by repeat (first | exact ro_refl | exact ro_pre | refine ro_tail ?_ | refine ro_app ?_)) ?_
    exact ⟨rfl, rfl⟩

/-- quorumite/conf.parts$1 -/
theorem clo_fn (x : Int) (M : Hp) : FnC Try.prog 117 #[.int .i64 x] M (fun v M' => v = .int .i64 x ∧ M = M') := by
  refine FnC.intro Try.func117 rfl 4 rfl (by simp) (fun z => ?_)
  refine TC.env (E' := [(0, _)]) (Sub.cons rfl (Sub.nil _)) ?_
  refine TC.seq ?_
  refine TC.region ?_
  refine TL.val rfl rfl (Nat.le_of_ble_eq_true rfl) (Val.assign rfl) ?_
  refine TL.nil ?_
  refine AtX.then ?_
  refine TC.seq ?_
  refine TC.region ?_
  refine TL.val rfl rfl (Nat.le_of_ble_eq_true rfl) (Val.move rfl) ?_
  refine TL.val rfl rfl (Nat.le_of_ble_eq_true rfl) (Val.assign rfl) ?_
  refine TL.nil ?_
  refine AtX.then ?_
  refine TC.env (E' := [(2, _)]) (Sub.cons rfl (Sub.nil _)) ?_
  refine TC.ret1 (fn := Try.f117) (fun _ _ h => h) rfl (RV.tmp rfl) (fun _ h => h) ?_
  exact ⟨rfl, rfl⟩

end Go.Proofs.Ytphoapajlcaoeaa
/- walks -/
set_option linter.unusedVariables false
set_option linter.unusedSimpArgs false
set_option maxRecDepth 100000
set_option maxHeartbeats 4000000
namespace Go.Proofs.Ytphoapajlcaoeaa
open Go Go.X
/-- quorumite/conf.parts -/
theorem parts_fn (c : Cf) (M : Hp) (hn : 0 ≤ c.n ∧ c.n ≤ 1000) (hf : 0 ≤ c.f ∧ c.f ≤ 16) (ht : tg c) : FnC Try.prog 108 #[.agg #[.int .i64 (c.n), .int .i64 (c.f), .int .i64 (c.m), .int .i64 (c.quorum), .int .i64 (c.fresh), .int .i64 (c.grace), .int .i64 (c.window), .int .i64 (c.t0), .int .i64 (c.t1), .int .i64 (c.t2), .int .i64 (c.t3), .int .i64 (c.tol), .int .i64 (c.min), .int .i64 (c.max), .int .i64 (c.calmup), .int .i64 (c.calmdown), .int .i64 (c.podsup), .int .i64 (c.pctup), .int .i64 (c.podsdown), .int .i64 (c.pctdown), .int .i64 (c.period), .int .i64 (c.far), .int .i64 (c.strikes), .int .i64 (c.probe), .int .i64 (c.sectors), .int .u64 (c.seed)]] M (fun v M' => ∃ b, v = .slice (some ⟨b, 0, none⟩) 22 22 ∧ M' = (b, row 176 ((partsL c c.f 1).flatMap Pt.cs)) :: M) := by
  refine FnC.intro Try.func108 rfl 135 rfl (by simp) (fun z => ?_)
  refine TC.env (E' := [(0, _)]) (Sub.cons rfl (Sub.nil _)) ?_
  refine TC.seq ?_
  refine TC.region ?_
  refine TL.does (some 1) rfl rfl rfl (Does.box rfl rfl) ?_
  rintro _ _ ⟨b1, rfl, rfl⟩
  refine TL.val rfl rfl (Nat.le_of_ble_eq_true rfl) (Val.assign rfl) ?_
  refine TL.nil ?_
  refine AtX.then ?_
  refine TC.env (E' := [(1, _), (2, _)]) (Sub.cons rfl (Sub.cons rfl (Sub.nil _))) ?_
  refine TC.seq ?_
  refine TC.region ?_
  refine TL.val rfl rfl (Nat.le_of_ble_eq_true rfl) (Val.assign rfl) ?_
  refine TL.nil ?_
  refine AtX.then ?_
  refine TC.env (E' := [(1, _), (2, _), (3, _)]) (Sub.cons rfl (Sub.cons rfl (Sub.cons rfl (Sub.nil _)))) ?_
  refine TC.seq ?_
  refine TC.region ?_
  refine TL.val rfl rfl (Nat.le_of_ble_eq_true rfl) (Val.move rfl) ?_
  refine TL.val rfl rfl (Nat.le_of_ble_eq_true rfl) (Val.fieldAddr rfl fl26_1 sz3 rfl) ?_
  refine TL.val rfl rfl (Nat.le_of_ble_eq_true rfl) (Val.load 0 rfl ag3 rfl rfl) ?_
  refine TL.val rfl rfl (Nat.le_of_ble_eq_true rfl) (Val.max rfl rfl (r := c.f) (by split <;> omega)) ?_
  refine TL.val rfl rfl (Nat.le_of_ble_eq_true rfl) (Val.min rfl rfl (r := c.f) (by split <;> omega)) ?_
  refine TL.does (some 10) rfl rfl rfl (Does.callV rfl go117 rfl (clo_fn _ _)) ?_
  rintro _ _ ⟨rfl, rfl⟩
  refine TL.val rfl rfl (Nat.le_of_ble_eq_true rfl) (Val.assign rfl) ?_
  refine TL.nil ?_
  refine AtX.then ?_
  refine TC.env (E' := [(1, _), (2, _), (3, _), (4, _)]) (Sub.cons rfl (Sub.cons rfl (Sub.cons rfl (Sub.cons rfl (Sub.nil _))))) ?_
  refine TC.seq ?_
  refine TC.drawF ((b1, .cells #[.int .i64 (c.n), .int .i64 (c.f), .int .i64 (c.m), .int .i64 (c.quorum), .int .i64 (c.fresh), .int .i64 (c.grace), .int .i64 (c.window), .int .i64 (c.t0), .int .i64 (c.t1), .int .i64 (c.t2), .int .i64 (c.t3), .int .i64 (c.tol), .int .i64 (c.min), .int .i64 (c.max), .int .i64 (c.calmup), .int .i64 (c.calmdown), .int .i64 (c.podsup), .int .i64 (c.pctup), .int .i64 (c.podsdown), .int .i64 (c.pctdown), .int .i64 (c.period), .int .i64 (c.far), .int .i64 (c.strikes), .int .i64 (c.probe), .int .i64 (c.sectors), .int .u64 (c.seed)] 26 (0, 0)) :: M) mixed 125 (by kernel_rfl) (by kernel_rfl) ?_
  refine TF.tk 0 1 rfl rfl rfl (Val.move rfl) ?_
  refine TF.tk 1 3 rfl rfl rfl (Val.fieldAddr rfl fl26_0 sz3 rfl) ?_
  refine TF.tk 2 7 rfl rfl rfl (Val.load 0 rfl ag3 rfl rfl) ?_
  refine TF.tk 5 39 rfl rfl rfl (Val.move rfl) ?_
  refine TF.tk 6 103 rfl rfl rfl (Val.fieldAddr rfl fl26_1 sz3 rfl) ?_
  refine TF.tk 7 231 rfl rfl rfl (Val.load 0 rfl ag3 rfl rfl) ?_
  refine TF.tk 9 743 rfl rfl rfl (Val.move rfl) ?_
  refine TF.tk 10 1767 rfl rfl rfl (Val.fieldAddr rfl fl26_0 sz3 rfl) ?_
  refine TF.tk 11 3815 rfl rfl rfl (Val.load 0 rfl ag3 rfl rfl) ?_
  refine TF.tk 16 69351 rfl rfl rfl (Val.move rfl) ?_
  refine TF.tk 17 200423 rfl rfl rfl (Val.fieldAddr rfl fl26_2 sz3 rfl) ?_
  refine TF.tk 18 462567 rfl rfl rfl (Val.load 0 rfl ag3 rfl rfl) ?_
  refine TF.tk 21 2559719 rfl rfl rfl (Val.move rfl) ?_
  refine TF.tk 22 6754023 rfl rfl rfl (Val.fieldAddr rfl fl26_3 sz3 rfl) ?_
  refine TF.tk 23 15142631 rfl rfl rfl (Val.load 0 rfl ag3 rfl rfl) ?_
  refine TF.tk 25 48697063 rfl rfl rfl (Val.move rfl) ?_
  refine TF.tk 26 115805927 rfl rfl rfl (Val.mul rfl rfl (r := 2 * c.f) (w_i64 (by omega) (by omega))) ?_
  refine TF.tk 27 250023655 rfl rfl rfl (Val.add rfl rfl (r := 2 * c.f + 1) (w_i64 (by omega) (by omega))) ?_
  refine TF.tk 28 518459111 rfl rfl rfl (Val.move rfl) ?_
  refine TF.tk 29 1055330023 rfl rfl rfl (Val.fieldAddr rfl fl26_0 sz3 rfl) ?_
  refine TF.tk 30 2129071847 rfl rfl rfl (Val.load 0 rfl ag3 rfl rfl) ?_
  refine TF.tk 33 10719006439 rfl rfl rfl (Val.move rfl) ?_
  refine TF.tk 34 27898875623 rfl rfl rfl (Val.fieldAddr rfl fl26_4 sz3 rfl) ?_
  refine TF.tk 35 62258613991 rfl rfl rfl (Val.load 0 rfl ag3 rfl rfl) ?_
  refine TF.tk 38 337136520935 rfl rfl rfl (Val.move rfl) ?_
  refine TF.tk 39 886892334823 rfl rfl rfl (Val.fieldAddr rfl fl26_5 sz3 rfl) ?_
  refine TF.tk 40 1986403962599 rfl rfl rfl (Val.load 0 rfl ag3 rfl rfl) ?_
  refine TF.tk 43 10782496984807 rfl rfl rfl (Val.move rfl) ?_
  refine TF.tk 44 28374683029223 rfl rfl rfl (Val.fieldAddr rfl fl26_6 sz3 rfl) ?_
  refine TF.tk 45 63559055118055 rfl rfl rfl (Val.load 0 rfl ag3 rfl rfl) ?_
  refine TF.tk 48 345034031828711 rfl rfl rfl (Val.loadAgg 0 rfl ag26 sz26 rfl rfl rfl) ?_
  refine TF.tk 51 2596833845513959 rfl rfl rfl (Val.move rfl) ?_
  refine TF.tk 52 7100433472884455 rfl rfl rfl (Val.fieldAddr rfl fl26_8 sz3 rfl) ?_
  refine TF.tk 53 16107632727625447 rfl rfl rfl (Val.load 0 rfl ag3 rfl rfl) ?_
  refine TF.tk 56 88165226765553383 rfl rfl rfl (Val.move rfl) ?_
  refine TF.tk 57 232280414841409255 rfl rfl rfl (Val.fieldAddr rfl fl26_9 sz3 rfl) ?_
  refine TF.tk 58 520510790993120999 rfl rfl rfl (Val.load 0 rfl ag3 rfl rfl) ?_
  refine TF.tk 61 2826353800206814951 rfl rfl rfl (Val.move rfl) ?_
  refine TF.tk 62 7438039818634202855 rfl rfl rfl (Val.fieldAddr rfl fl26_10 sz3 rfl) ?_
  refine TF.tk 63 16661411855488978663 rfl rfl rfl (Val.load 0 rfl ag3 rfl rfl) ?_
  refine TF.tk 65 53554900002908081895 rfl rfl rfl (Val.move rfl) ?_
  refine TF.tk 66 127341876297746288359 rfl rfl rfl (Val.fieldAddr rfl fl26_9 sz3 rfl) ?_
  refine TF.tk 67 274915828887422701287 rfl rfl rfl (Val.load 0 rfl ag3 rfl rfl) ?_
  refine TF.tk 70 1455507449604834004711 rfl rfl rfl (Val.move rfl) ?_
  refine TF.tk 71 3816690691039656611559 rfl rfl rfl (Val.fieldAddr rfl fl26_11 sz3 rfl) ?_
  refine TF.tk 72 8539057173909301825255 rfl rfl rfl (Val.load 0 rfl ag3 rfl rfl) ?_
  refine TF.tk 75 46317989036866463534823 rfl rfl rfl (Val.move rfl) ?_
  refine TF.tk 76 121875852762780786953959 rfl rfl rfl (Val.fieldAddr rfl fl26_12 sz3 rfl) ?_
  refine TF.tk 77 272991580214609433792231 rfl rfl rfl (Val.load 0 rfl ag3 rfl rfl) ?_
  refine TF.tk 80 1481917399829238608498407 rfl rfl rfl (Val.move rfl) ?_
  refine TF.tk 81 3899769039058496957910759 rfl rfl rfl (Val.fieldAddr rfl fl26_13 sz3 rfl) ?_
  refine TF.tk 82 8735472317517013656735463 rfl rfl rfl (Val.load 0 rfl ag3 rfl rfl) ?_
  refine TF.tk 85 47421098545185147247333095 rfl rfl rfl (Val.move rfl) ?_
  refine TF.tk 86 124792351000521414428528359 rfl rfl rfl (Val.fieldAddr rfl fl26_14 sz3 rfl) ?_
  refine TF.tk 87 279534855911193948790918887 rfl rfl rfl (Val.load 0 rfl ag3 rfl rfl) ?_
  refine TF.tk 90 1517474895196574223690043111 rfl rfl rfl (Val.move rfl) ?_
  refine TF.tk 91 3993354973767334773488291559 rfl rfl rfl (Val.fieldAddr rfl fl26_15 sz3 rfl) ?_
  refine TF.tk 92 8945115130908855873084788455 rfl rfl rfl (Val.load 0 rfl ag3 rfl rfl) ?_
  refine TF.tk 95 48559196388041024669856763623 rfl rfl rfl (Val.move rfl) ?_
  refine TF.tk 96 127787358902305362263400713959 rfl rfl rfl (Val.fieldAddr rfl fl26_16 sz3 rfl) ?_
  refine TF.tk 97 286243683930834037450488614631 rfl rfl rfl (Val.load 0 rfl ag3 rfl rfl) ?_
  refine TF.tk 100 1553894284159063438947191820007 rfl rfl rfl (Val.move rfl) ?_
  refine TF.tk 101 4089195484615522241940598230759 rfl rfl rfl (Val.fieldAddr rfl fl26_17 sz3 rfl) ?_
  refine TF.tk 102 9159797885528439847927411052263 rfl rfl rfl (Val.load 0 rfl ag3 rfl rfl) ?_
  refine TF.tk 105 49724617092831780695821913624295 rfl rfl rfl (Val.fieldAddr rfl fl26_18 sz2 rfl) ?_
  refine TF.tk 106 130854255507438462391610918768359 rfl rfl rfl (Val.load 0 rfl ag2 rfl rfl) ?_
  refine TF.tk 107 293113532336651825783188929056487 rfl rfl rfl (Val.buildS (cs := Pt.cs ⟨[102, 97, 114], c.far, 0, 1099511627776⟩) pl176 ze176 rfl rfl) ?_
  refine TF.tk 108 617632085995078552566344949632743 rfl rfl rfl (Val.move rfl) ?_
  refine TF.tk 109 1266669193311932006132656990785255 rfl rfl rfl (Val.fieldAddr rfl fl26_19 sz3 rfl) ?_
  refine TF.tk 110 2564743407945638913265281073090279 rfl rfl rfl (Val.load 0 rfl ag3 rfl rfl) ?_
  refine TF.tk 113 12949337125015294170326273731530471 rfl rfl rfl (Val.move rfl) ?_
  refine TF.tk 114 33718524559154604684448259048410855 rfl rfl rfl (Val.fieldAddr rfl fl26_20 sz3 rfl) ?_
  refine TF.tk 115 75256899427433225712692229682171623 rfl rfl rfl (Val.load 0 rfl ag3 rfl rfl) ?_
  refine TF.tk 118 407563898373662193938643994752257767 rfl rfl rfl (Val.move rfl) ?_
  refine TF.tk 119 1072177896266120130390547524892430055 rfl rfl rfl (Val.fieldAddr rfl fl26_21 sz3 rfl) ?_
  refine TF.tk 120 2401405892051036003294354585172774631 rfl rfl rfl (Val.load 0 rfl ag3 rfl rfl) ?_
  refine TF.one 3 (by kernel_rfl) ?_
  refine TOF.dz 2401405892051036003294354585172774639 (some 14) rfl rfl rfl rfl (Does.callV rfl go117 rfl (clo_fn _ _)) ?_
  rintro _ _ ⟨rfl, rfl⟩
  refine roK ?_
  refine TF.tk 4 2401405892051036003294354585172774655 rfl rfl rfl (Val.buildS (cs := Pt.cs ⟨[110], c.n, 1, 16⟩) pl176 ze176 rfl rfl) ?_
  refine TF.one 8 (by kernel_rfl) ?_
  refine TOF.dz 2401405892051036003294354585172774911 (some 19) rfl rfl rfl rfl (Does.callV rfl go117 rfl (clo_fn _ _)) ?_
  rintro _ _ ⟨rfl, rfl⟩
  refine roK ?_
  refine TF.one 12 (by kernel_rfl) ?_
  refine TOF.dz 2401405892051036003294354585172779007 (some 23) rfl rfl rfl rfl (Does.callV rfl go117 rfl (clo_fn _ _)) ?_
  rintro _ _ ⟨rfl, rfl⟩
  refine roK ?_
  refine TF.tk 13 2401405892051036003294354585172787199 rfl rfl rfl (Val.sub rfl rfl (r := c.n - 1) (w_i64 (by omega) (by omega))) ?_
  refine TF.tk 14 2401405892051036003294354585172803583 rfl rfl rfl (Val.quo rfl rfl (by decide) (r := (c.n - 1).tdiv 3) (w_i64 (by have := quo3 hn; omega) (by have := quo3 hn; omega))) ?_
  refine TF.tk 15 2401405892051036003294354585172836351 rfl rfl rfl (Val.buildS (cs := Pt.cs ⟨[102], c.f, 0, ((c.n - 1).tdiv 3)⟩) pl176 ze176 rfl rfl) ?_
  refine TF.one 19 (by kernel_rfl) ?_
  refine TOF.dz 2401405892051036003294354585173360639 (some 30) rfl rfl rfl rfl (Does.callV rfl go117 rfl (clo_fn _ _)) ?_
  rintro _ _ ⟨rfl, rfl⟩
  refine roK ?_
  refine TF.tk 20 2401405892051036003294354585174409215 rfl rfl rfl (Val.buildS (cs := Pt.cs ⟨[109], c.m, 1, 4⟩) pl176 ze176 rfl rfl) ?_
  refine TF.one 24 (by kernel_rfl) ?_
  refine TOF.dz 2401405892051036003294354585191186431 (some 35) rfl rfl rfl rfl (Does.callV rfl go117 rfl (clo_fn _ _)) ?_
  rintro _ _ ⟨rfl, rfl⟩
  refine roK ?_
  refine TF.one 31 (by kernel_rfl) ?_
  refine TOF.dz 2401405892051036003294354587338670079 (some 42) rfl rfl rfl rfl (Does.callV rfl go117 rfl (clo_fn _ _)) ?_
  rintro _ _ ⟨rfl, rfl⟩
  refine roK ?_
  refine TF.tk 32 2401405892051036003294354591633637375 rfl rfl rfl (Val.buildS (cs := Pt.cs ⟨[113, 117, 111, 114, 117, 109], c.quorum, (2 * c.f + 1), c.n⟩) pl176 ze176 rfl rfl) ?_
  refine TF.one 36 (by kernel_rfl) ?_
  refine TOF.dz 2401405892051036003294354660353114111 (some 47) rfl rfl rfl rfl (Does.callV rfl go117 rfl (clo_fn _ _)) ?_
  rintro _ _ ⟨rfl, rfl⟩
  refine roK ?_
  refine TF.tk 37 2401405892051036003294354797792067583 rfl rfl rfl (Val.buildS (cs := Pt.cs ⟨[102, 114, 101, 115, 104], c.fresh, 1, 8⟩) pl176 ze176 rfl rfl) ?_
  refine TF.one 41 (by kernel_rfl) ?_
  refine TOF.dz 2401405892051036003294356996815323135 (some 52) rfl rfl rfl rfl (Does.callV rfl go117 rfl (clo_fn _ _)) ?_
  rintro _ _ ⟨rfl, rfl⟩
  refine roK ?_
  refine TF.tk 42 2401405892051036003294361394861834239 rfl rfl rfl (Val.buildS (cs := Pt.cs ⟨[103, 114, 97, 99, 101], c.grace, 1, 100⟩) pl176 ze176 rfl rfl) ?_
  refine TF.one 46 (by kernel_rfl) ?_
  refine TOF.dz 2401405892051036003294431763606011903 (some 57) rfl rfl rfl rfl (Does.callV rfl go117 rfl (clo_fn _ _)) ?_
  rintro _ _ ⟨rfl, rfl⟩
  refine roK ?_
  refine TF.tk 47 2401405892051036003294572501094367231 rfl rfl rfl (Val.buildS (cs := Pt.cs ⟨[119, 105, 110, 100, 111, 119], c.window, 1, 64⟩) pl176 ze176 rfl rfl) ?_
  refine TF.one 49 (by kernel_rfl) ?_
  refine TOF.dz 2401405892051036003295135451047788543 (some 60) rfl rfl rfl rfl (Does.callF go118 rfl (targets_fn c _ ht)) ?_
  rintro _ _ ⟨rfl, rfl⟩
  refine roK ?_
  refine TF.tk 50 2401405892051036003296261350954631167 rfl rfl rfl (Val.buildS (cs := Pt.cs ⟨[116, 97, 114, 103, 101, 116], 1, 1, 1⟩) pl176 ze176 rfl rfl) ?_
  refine TF.one 54 (by kernel_rfl) ?_
  refine TOF.dz 2401405892051036003314275749464113151 (some 65) rfl rfl rfl rfl (Does.callV rfl go117 rfl (clo_fn _ _)) ?_
  rintro _ _ ⟨rfl, rfl⟩
  refine roK ?_
  refine TF.tk 55 2401405892051036003350304546483077119 rfl rfl rfl (Val.buildS (cs := Pt.cs ⟨[116, 111, 108], c.tol, 0, 1000⟩) pl176 ze176 rfl rfl) ?_
  refine TF.one 59 (by kernel_rfl) ?_
  refine TOF.dz 2401405892051036003926765298786500607 (some 70) rfl rfl rfl rfl (Does.callV rfl go117 rfl (clo_fn _ _)) ?_
  rintro _ _ ⟨rfl, rfl⟩
  refine roK ?_
  refine TF.tk 60 2401405892051036005079686803393347583 rfl rfl rfl (Val.buildS (cs := Pt.cs ⟨[109, 105, 110], c.min, 1, 10000⟩) pl176 ze176 rfl rfl) ?_
  refine TF.one 64 (by kernel_rfl) ?_
  refine TOF.dz 2401405892051036023526430877102899199 (some 75) rfl rfl rfl rfl (Does.callV rfl go117 rfl (clo_fn _ _)) ?_
  rintro _ _ ⟨rfl, rfl⟩
  refine roK ?_
  refine TF.one 68 (by kernel_rfl) ?_
  refine TOF.dz 2401405892051036318674336056455725055 (some 79) rfl rfl rfl rfl (Does.callV rfl go117 rfl (clo_fn _ _)) ?_
  rintro _ _ ⟨rfl, rfl⟩
  refine roK ?_
  refine TF.tk 69 2401405892051036908970146415161376767 rfl rfl rfl (Val.buildS (cs := Pt.cs ⟨[109, 97, 120], c.max, c.min, 10000⟩) pl176 ze176 rfl rfl) ?_
  refine TF.one 73 (by kernel_rfl) ?_
  refine TOF.dz 2401405892051046353703112154451804159 (some 84) rfl rfl rfl rfl (Does.callV rfl go117 rfl (clo_fn _ _)) ?_
  rintro _ _ ⟨rfl, rfl⟩
  refine roK ?_
  refine TF.tk 74 2401405892051065243169043633032658943 rfl rfl rfl (Val.buildS (cs := Pt.cs ⟨[99, 97, 108, 109, 117, 112], c.calmup, 0, 60⟩) pl176 ze176 rfl rfl) ?_
  refine TF.one 78 (by kernel_rfl) ?_
  refine TOF.dz 2401405892051367474623947290326335487 (some 89) rfl rfl rfl rfl (Does.callV rfl go117 rfl (clo_fn _ _)) ?_
  rintro _ _ ⟨rfl, rfl⟩
  refine roK ?_
  refine TF.tk 79 2401405892051971937533754604913688575 rfl rfl rfl (Val.buildS (cs := Pt.cs ⟨[99, 97, 108, 109, 100, 111, 119, 110], c.calmdown, 0, 60⟩) pl176 ze176 rfl rfl) ?_
  refine TF.one 83 (by kernel_rfl) ?_
  refine TOF.dz 2401405892061643344090671638311337983 (some 94) rfl rfl rfl rfl (Does.callV rfl go117 rfl (clo_fn _ _)) ?_
  rintro _ _ ⟨rfl, rfl⟩
  refine roK ?_
  refine TF.tk 84 2401405892080986157204505705106636799 rfl rfl rfl (Val.buildS (cs := Pt.cs ⟨[112, 111, 100, 115, 117, 112], c.podsup, 1, 1000⟩) pl176 ze176 rfl rfl) ?_
  refine TF.one 88 (by kernel_rfl) ?_
  refine TOF.dz 2401405892390471167025850773831417855 (some 99) rfl rfl rfl rfl (Does.callV rfl go117 rfl (clo_fn _ _)) ?_
  rintro _ _ ⟨rfl, rfl⟩
  refine roK ?_
  refine TF.tk 89 2401405893009441186668540911280979967 rfl rfl rfl (Val.buildS (cs := Pt.cs ⟨[112, 99, 116, 117, 112], c.pctup, 1, 1000⟩) pl176 ze176 rfl rfl) ?_
  refine TF.one 93 (by kernel_rfl) ?_
  refine TOF.dz 2401405902912961500951583110473973759 (some 104) rfl rfl rfl rfl (Does.callV rfl go117 rfl (clo_fn _ _)) ?_
  rintro _ _ ⟨rfl, rfl⟩
  refine roK ?_
  refine TF.tk 94 2401405922720002129517667508859961343 rfl rfl rfl (Val.buildS (cs := Pt.cs ⟨[112, 111, 100, 115, 100, 111, 119, 110], c.podsdown, 1, 1000⟩) pl176 ze176 rfl rfl) ?_
  refine TF.one 98 (by kernel_rfl) ?_
  refine TOF.dz 2401406239632652186575017883035762687 (some 109) rfl rfl rfl rfl (Does.callV rfl go117 rfl (clo_fn _ _)) ?_
  rintro _ _ ⟨rfl, rfl⟩
  refine roK ?_
  refine TF.tk 99 2401406873457952300689718631387365375 rfl rfl rfl (Val.buildS (cs := Pt.cs ⟨[112, 99, 116, 100, 111, 119, 110], c.pctdown, 1, 100⟩) pl176 ze176 rfl rfl) ?_
  refine TF.one 103 (by kernel_rfl) ?_
  refine TOF.dz 2401417014662754126524930605013008383 (some 114) rfl rfl rfl rfl (Does.callV rfl go117 rfl (clo_fn _ _)) ?_
  rintro _ _ ⟨rfl, rfl⟩
  refine roK ?_
  refine TF.tk 104 2401437297072357778195354552264294399 rfl rfl rfl (Val.buildS (cs := Pt.cs ⟨[112, 101, 114, 105, 111, 100], c.period, 1, 60⟩) pl176 ze176 rfl rfl) ?_
  refine TF.one 111 (by kernel_rfl) ?_
  refine TOF.dz 2404033445501625192009619800428904447 (some 122) rfl rfl rfl rfl (Does.callV rfl go117 rfl (clo_fn _ _)) ?_
  rintro _ _ ⟨rfl, rfl⟩
  refine roK ?_
  refine TF.tk 112 2409225742360160019638150296758124543 rfl rfl rfl (Val.buildS (cs := Pt.cs ⟨[115, 116, 114, 105, 107, 101, 115], c.strikes, 1, 100⟩) pl176 ze176 rfl rfl) ?_
  refine TF.one 116 (by kernel_rfl) ?_
  refine TOF.dz 2492302492096717261694638238025646079 (some 127) rfl rfl rfl rfl (Does.callV rfl go117 rfl (clo_fn _ _)) ?_
  rintro _ _ ⟨rfl, rfl⟩
  refine roK ?_
  refine TF.tk 117 2658455991569831745807614120560689151 rfl rfl rfl (Val.buildS (cs := Pt.cs ⟨[112, 114, 111, 98, 101], c.probe, 1, 100⟩) pl176 ze176 rfl rfl) ?_
  refine TF.one 121 (by kernel_rfl) ?_
  refine TOF.dz 5316911983139663491615228241121378303 (some 132) rfl rfl rfl rfl (Does.callV rfl go117 rfl (clo_fn _ _)) ?_
  rintro _ _ ⟨rfl, rfl⟩
  refine roK ?_
  refine TF.tk 122 10633823966279326983230456482242756607 rfl rfl rfl (Val.buildS (cs := Pt.cs ⟨[115, 101, 99, 116, 111, 114, 115], c.sectors, 64, 4096⟩) pl176 ze176 rfl rfl) ?_
  refine TF.one 123 (by kernel_rfl) ?_
  refine TOF.dz 21267647932558653966460912964485513215 (some 134) rfl rfl rfl rfl (Does.buildSlice (cs := (partsL c c.f 1).flatMap Pt.cs) sl173 sz176 ze176 (by decide) (by decide) rfl (evP rfl (evP rfl (evP rfl (evP rfl (evP rfl (evP rfl (evP rfl (evP rfl (evP rfl (evP rfl (evP rfl (evP rfl (evP rfl (evP rfl (evP rfl (evP rfl (evP rfl (evP rfl (evP rfl (evP rfl (evP rfl (evP rfl evP0)))))))))))))))))))))) (fill_all (f := Pt.cs) (sz := 4) (zl := [.string ⟨#[]⟩, .int .i64 0, .int .i64 0, .int .i64 0]) (g := fun p => Value.agg p.cs.toArray) (fun _ => rfl) (fun _ => rfl) rfl (partsL c c.f 1))) ?_
  rintro _ _ ⟨bS, rfl, rfl⟩
  refine roK ?_
  refine TF.tk 124 42535295865117307932921825928971026431 rfl rfl rfl (Val.assign rfl) ?_
  refine TF.done (by kernel_rfl) ?_
  refine AtX.then ?_
  refine TC.env (E' := [(2, _)]) (Sub.cons rfl (Sub.nil _)) ?_
  refine TC.ret1 (fn := Try.f108) (fun _ _ h => h) rfl (RV.tmp rfl) (M' := (bS, row 176 ((partsL c c.f 1).flatMap Pt.cs)) :: M) (fun w h => ro_del 1 rfl w h) ?_
  exact ⟨bS, rfl, rfl⟩

end Go.Proofs.Ytphoapajlcaoeaa
/- walks -/
set_option linter.unusedVariables false
set_option linter.unusedSimpArgs false
set_option maxRecDepth 100000
set_option maxHeartbeats 4000000
namespace Go.Proofs.Ytphoapajlcaoeaa
open Go Go.X
/-- quorumite/conf.Wrong -/
theorem Wrong_ok (c : Cf) (M : Hp) (hc : OkC c) : FnC Try.prog 83 #[.agg #[.int .i64 (c.n), .int .i64 (c.f), .int .i64 (c.m), .int .i64 (c.quorum), .int .i64 (c.fresh), .int .i64 (c.grace), .int .i64 (c.window), .int .i64 (c.t0), .int .i64 (c.t1), .int .i64 (c.t2), .int .i64 (c.t3), .int .i64 (c.tol), .int .i64 (c.min), .int .i64 (c.max), .int .i64 (c.calmup), .int .i64 (c.calmdown), .int .i64 (c.podsup), .int .i64 (c.pctup), .int .i64 (c.podsdown), .int .i64 (c.pctdown), .int .i64 (c.period), .int .i64 (c.far), .int .i64 (c.strikes), .int .i64 (c.probe), .int .i64 (c.sectors), .int .u64 (c.seed)]] M (fun v M' => v = .string (ofL []) ∧ M = M') := by
  have hn : 0 ≤ c.n ∧ c.n ≤ 1000 := by have := hc.n; omega
  have hf : 0 ≤ c.f ∧ c.f ≤ 16 := by have := hc.n; have := hc.f; omega
  have ht := tg_ok hc
  refine FnC.intro Try.func83 rfl 27 rfl (by simp) (fun z => ?_)
  refine TC.env (E' := [(0, _)]) (Sub.cons rfl (Sub.nil _)) ?_
  refine TC.seq ?_
  refine TC.region ?_
  refine TL.does (some 1) rfl rfl rfl (Does.box rfl rfl) ?_
  rintro _ _ ⟨b1, rfl, rfl⟩
  refine TL.val rfl rfl (Nat.le_of_ble_eq_true rfl) (Val.assign rfl) ?_
  refine TL.nil ?_
  refine AtX.then ?_
  refine TC.env (E' := [(1, _), (2, _)]) (Sub.cons rfl (Sub.cons rfl (Sub.nil _))) ?_
  refine TC.seq ?_
  refine TC.seq ?_
  refine TC.region ?_
  refine TL.val rfl rfl (Nat.le_of_ble_eq_true rfl) (Val.loadAgg 0 rfl ag26 sz26 rfl rfl rfl) ?_
  refine TL.does (some 6) rfl rfl rfl (Does.callF go108 rfl (parts_fn c _ hn hf ht)) ?_
  rintro _ _ ⟨bS, rfl, rfl⟩
  refine TL.val rfl rfl (Nat.le_of_ble_eq_true rfl) (Val.lenSl rfl rfl sl173) ?_
  refine TL.val rfl rfl (Nat.le_of_ble_eq_true rfl) (Val.move rfl) ?_
  refine TL.nil ?_
  refine AtX.then ?_
  refine TC.env (E' := [(2, _), (6, _), (7, _), (8, _)]) (Sub.cons rfl (Sub.cons rfl (Sub.cons rfl (Sub.cons rfl (Sub.nil _))))) ?_
  refine TC.block ?_
  refine TC.loop (ι := Nat) (fun k => [(6, .slice (some ⟨bS, 0, none⟩) 22 22), (7, .int .i64 22), (8, .int .i64 (k : Nat))]) (fun _ => ((bS, row 176 ((partsL c c.f 1).flatMap Pt.cs)) :: ((b1, .cells #[.int .i64 (c.n), .int .i64 (c.f), .int .i64 (c.m), .int .i64 (c.quorum), .int .i64 (c.fresh), .int .i64 (c.grace), .int .i64 (c.window), .int .i64 (c.t0), .int .i64 (c.t1), .int .i64 (c.t2), .int .i64 (c.t3), .int .i64 (c.tol), .int .i64 (c.min), .int .i64 (c.max), .int .i64 (c.calmup), .int .i64 (c.calmdown), .int .i64 (c.podsup), .int .i64 (c.pctup), .int .i64 (c.podsdown), .int .i64 (c.pctdown), .int .i64 (c.period), .int .i64 (c.far), .int .i64 (c.strikes), .int .i64 (c.probe), .int .i64 (c.sectors), .int .u64 (c.seed)] 26 (0, 0)) :: M))) (fun k => k ≤ 22) (fun k => 22 - k) 0 ?_ (Sub.cons rfl (Sub.cons rfl (Sub.cons rfl (Sub.nil _)))) (fun _ h => h) ?_
  · first | exact Nat.zero_le _ | rfl
  intro k hk
  refine TC.seq ?_
  refine TC.region ?_
  refine TL.val rfl rfl (Nat.le_of_ble_eq_true rfl) (Val.lss rfl rfl) ?_
  refine TL.nil ?_
  refine AtX.then ?_
  refine TC.seq ?_
  first | refine TC.condP rfl (fun c1 => ?_) (fun c1 => ?_) | refine TC.condN rfl (fun c1 => ?_) (fun c1 => ?_) | refine TC.condB rfl (fun c1 => ?_) (fun c1 => ?_) | refine TC.cond rfl (fun c1 => ?_) (fun c1 => ?_)
  · skip
    refine TC.skip ?_
    refine AtX.then ?_
    refine TC.seq ?_
    refine TC.block ?_
    refine TC.seq ?_
    have hlt : k < 22 := by omega
    obtain ⟨p, hp⟩ : ∃ p, (partsL c c.f 1)[k]? = some p := ⟨_, List.getElem?_eq_getElem (by rw [parts_len]; exact hlt)⟩
    have hR : Rd (((bS, row 176 ((partsL c c.f 1).flatMap Pt.cs)) :: ((b1, .cells #[.int .i64 (c.n), .int .i64 (c.f), .int .i64 (c.m), .int .i64 (c.quorum), .int .i64 (c.fresh), .int .i64 (c.grace), .int .i64 (c.window), .int .i64 (c.t0), .int .i64 (c.t1), .int .i64 (c.t2), .int .i64 (c.t3), .int .i64 (c.tol), .int .i64 (c.min), .int .i64 (c.max), .int .i64 (c.calmup), .int .i64 (c.calmdown), .int .i64 (c.podsup), .int .i64 (c.pctup), .int .i64 (c.podsdown), .int .i64 (c.pctdown), .int .i64 (c.period), .int .i64 (c.far), .int .i64 (c.strikes), .int .i64 (c.probe), .int .i64 (c.sectors), .int .u64 (c.seed)] 26 (0, 0)) :: M))) ⟨bS, 0, none⟩ ((partsL c c.f 1).flatMap Pt.cs) := Rd.get (i := 0) rfl (by rw [List.drop_zero, List.take_of_length_le (Nat.le_refl _)])
    refine TC.region ?_
    refine TL.val rfl rfl (Nat.le_of_ble_eq_true rfl) (Val.indexAddr (i := k) (r := 4 * k) rfl rfl sl173 sz176 rfl (by omega) (by omega)) ?_
    refine TL.val rfl rfl (Nat.le_of_ble_eq_true rfl) (Val.loadAggR (o := 0) (j := 4 * k) (vs := p.cs) rfl ag176 sz176 hR (by omega) (flat_seg Pt.cs_len hp) rfl) ?_
    refine TL.does (some 4) rfl rfl rfl (Does.alloc ze176 rfl) ?_
    rintro _ _ ⟨b3, rfl, rfl⟩
    refine TL.does none rfl rfl rfl (Does.store (i := 0) rfl rfl rfl sz176 rfl rfl (by first | exact Nat.le_of_ble_eq_true rfl | decide | omega) rfl rfl) ?_
    rintro _ _ ⟨rfl, rfl⟩
    refine TL.nil ?_
    refine AtX.then ?_
    refine TC.seq ?_
    have hpp := parts_get hc hp
    refine TC.region ?_
    refine TL.val rfl rfl (Nat.le_of_ble_eq_true rfl) (Val.fieldAddr rfl fl176_1 sz2 rfl) ?_
    refine TL.val rfl rfl (Nat.le_of_ble_eq_true rfl) (Val.load 0 rfl ag2 rfl rfl) ?_
    refine TL.val rfl rfl (Nat.le_of_ble_eq_true rfl) (Val.fieldAddr rfl fl176_2 sz2 rfl) ?_
    refine TL.val rfl rfl (Nat.le_of_ble_eq_true rfl) (Val.load 0 rfl ag2 rfl rfl) ?_
    refine TL.val rfl rfl (Nat.le_of_ble_eq_true rfl) (Val.lss rfl rfl) ?_
    refine TL.val rfl rfl (Nat.le_of_ble_eq_true rfl) (Val.move rfl) ?_
    refine TL.gen (fun g4 hg4 => ?_)
    refine TL.gval rfl rfl (Nat.le_of_ble_eq_true rfl) rfl (Nat.le_of_ble_eq_true rfl) rfl (fun hg => by subst hg; exact (Val.fieldAddr rfl fl176_1 sz2 rfl)) ?_
    refine TL.gval rfl rfl (Nat.le_of_ble_eq_true rfl) rfl (Nat.le_of_ble_eq_true rfl) rfl (fun hg => by subst hg; exact (Val.load 0 rfl ag2 rfl rfl)) ?_
    refine TL.gval rfl rfl (Nat.le_of_ble_eq_true rfl) rfl (Nat.le_of_ble_eq_true rfl) rfl (fun hg => by subst hg; exact (Val.fieldAddr rfl fl176_3 sz2 rfl)) ?_
    refine TL.gval rfl rfl (Nat.le_of_ble_eq_true rfl) rfl (Nat.le_of_ble_eq_true rfl) rfl (fun hg => by subst hg; exact (Val.load 0 rfl ag2 rfl rfl)) ?_
    refine TL.gval rfl rfl (Nat.le_of_ble_eq_true rfl) rfl (Nat.le_of_ble_eq_true rfl) rfl (fun hg => by subst hg; exact (Val.gtr rfl rfl)) ?_
    refine TL.val rfl rfl (Nat.le_of_ble_eq_true rfl) (Val.pickOr rfl rfl rfl) ?_
    refine TL.nil ?_
    refine AtX.then ?_
    first | refine TC.condP rfl (fun c2 => ?_) (fun c2 => ?_) | refine TC.condN rfl (fun c2 => ?_) (fun c2 => ?_) | refine TC.condB rfl (fun c2 => ?_) (fun c2 => ?_) | refine TC.cond rfl (fun c2 => ?_) (fun c2 => ?_)
    · skip
      (exfalso; grind)
    · skip
      refine TC.skip ?_
      refine AtX.blk ?_
      refine AtX.then ?_
      refine TC.region ?_
      refine TL.val rfl rfl (Nat.le_of_ble_eq_true rfl) (Val.add rfl rfl (w_i64 (by omega) (by omega))) ?_
      refine TL.val rfl rfl (Nat.le_of_ble_eq_true rfl) (Val.move rfl) ?_
      refine TL.nil ?_
      refine AtX.round (k + 1) ?_ ?_ (Sub.cons rfl (Sub.cons rfl (Sub.cons rfl (Sub.nil _)))) (by repeat (first | exact ro_refl | exact ro_pre | refine ro_tail ?_ | refine ro_app ?_))
      · omega
      · omega
  · skip
    refine TC.exit ?_
    refine AtX.seqX ?_
    refine AtX.seqX ?_
    refine AtX.hit ?_
    refine AtX.then ?_
    refine TC.env (E' := []) (Sub.nil _) ?_
    refine TC.seq ?_
    refine TC.region ?_
    refine TL.val rfl rfl (Nat.le_of_ble_eq_true rfl) (Val.assign rfl) ?_
    refine TL.nil ?_
    refine AtX.then ?_
    refine TC.env (E' := [(2, _)]) (Sub.cons rfl (Sub.nil _)) ?_
    refine TC.ret1 (fn := Try.f83) (fun _ _ h => h) rfl (RV.tmp rfl) (M' := M) (by repeat (first | exact ro_refl | exact ro_pre | refine ro_tail ?_ | refine ro_app ?_)) ?_
    exact ⟨rfl, rfl⟩

/-- quorumite/conf.Wrong -/
theorem Wrong_n (c : Cf) (M : Hp) (hn : 0 ≤ c.n ∧ c.n ≤ 1000) (hf : 0 ≤ c.f ∧ c.f ≤ 16) (ht : tg c) (h1 : c.n < 1) : FnC Try.prog 83 #[.agg #[.int .i64 (c.n), .int .i64 (c.f), .int .i64 (c.m), .int .i64 (c.quorum), .int .i64 (c.fresh), .int .i64 (c.grace), .int .i64 (c.window), .int .i64 (c.t0), .int .i64 (c.t1), .int .i64 (c.t2), .int .i64 (c.t3), .int .i64 (c.tol), .int .i64 (c.min), .int .i64 (c.max), .int .i64 (c.calmup), .int .i64 (c.calmdown), .int .i64 (c.podsup), .int .i64 (c.pctup), .int .i64 (c.podsdown), .int .i64 (c.pctdown), .int .i64 (c.period), .int .i64 (c.far), .int .i64 (c.strikes), .int .i64 (c.probe), .int .i64 (c.sectors), .int .u64 (c.seed)]] M (fun v M' => v = .string (ofL [110]) ∧ M = M') := by
  refine FnC.intro Try.func83 rfl 27 rfl (by simp) (fun z => ?_)
  refine TC.env (E' := [(0, _)]) (Sub.cons rfl (Sub.nil _)) ?_
  refine TC.seq ?_
  refine TC.region ?_
  refine TL.does (some 1) rfl rfl rfl (Does.box rfl rfl) ?_
  rintro _ _ ⟨b1, rfl, rfl⟩
  refine TL.val rfl rfl (Nat.le_of_ble_eq_true rfl) (Val.assign rfl) ?_
  refine TL.nil ?_
  refine AtX.then ?_
  refine TC.env (E' := [(1, _), (2, _)]) (Sub.cons rfl (Sub.cons rfl (Sub.nil _))) ?_
  refine TC.seq ?_
  refine TC.seq ?_
  refine TC.region ?_
  refine TL.val rfl rfl (Nat.le_of_ble_eq_true rfl) (Val.loadAgg 0 rfl ag26 sz26 rfl rfl rfl) ?_
  refine TL.does (some 6) rfl rfl rfl (Does.callF go108 rfl (parts_fn c _ hn hf ht)) ?_
  rintro _ _ ⟨bS, rfl, rfl⟩
  refine TL.val rfl rfl (Nat.le_of_ble_eq_true rfl) (Val.lenSl rfl rfl sl173) ?_
  refine TL.val rfl rfl (Nat.le_of_ble_eq_true rfl) (Val.move rfl) ?_
  refine TL.nil ?_
  refine AtX.then ?_
  refine TC.env (E' := [(2, _), (6, _), (7, _), (8, _)]) (Sub.cons rfl (Sub.cons rfl (Sub.cons rfl (Sub.cons rfl (Sub.nil _))))) ?_
  refine TC.block ?_
  refine TC.loop (ι := Nat) (fun k => [(6, .slice (some ⟨bS, 0, none⟩) 22 22), (7, .int .i64 22), (8, .int .i64 (k : Nat))]) (fun _ => ((bS, row 176 ((partsL c c.f 1).flatMap Pt.cs)) :: ((b1, .cells #[.int .i64 (c.n), .int .i64 (c.f), .int .i64 (c.m), .int .i64 (c.quorum), .int .i64 (c.fresh), .int .i64 (c.grace), .int .i64 (c.window), .int .i64 (c.t0), .int .i64 (c.t1), .int .i64 (c.t2), .int .i64 (c.t3), .int .i64 (c.tol), .int .i64 (c.min), .int .i64 (c.max), .int .i64 (c.calmup), .int .i64 (c.calmdown), .int .i64 (c.podsup), .int .i64 (c.pctup), .int .i64 (c.podsdown), .int .i64 (c.pctdown), .int .i64 (c.period), .int .i64 (c.far), .int .i64 (c.strikes), .int .i64 (c.probe), .int .i64 (c.sectors), .int .u64 (c.seed)] 26 (0, 0)) :: M))) (fun k => k = 0) (fun k => 22 - k) 0 ?_ (Sub.cons rfl (Sub.cons rfl (Sub.cons rfl (Sub.nil _)))) (fun _ h => h) ?_
  · first | exact Nat.zero_le _ | rfl
  intro k hk
  refine TC.seq ?_
  refine TC.region ?_
  refine TL.val rfl rfl (Nat.le_of_ble_eq_true rfl) (Val.lss rfl rfl) ?_
  refine TL.nil ?_
  refine AtX.then ?_
  refine TC.seq ?_
  first | refine TC.condP rfl (fun c1 => ?_) (fun c1 => ?_) | refine TC.condN rfl (fun c1 => ?_) (fun c1 => ?_) | refine TC.condB rfl (fun c1 => ?_) (fun c1 => ?_) | refine TC.cond rfl (fun c1 => ?_) (fun c1 => ?_)
  · skip
    refine TC.skip ?_
    refine AtX.then ?_
    refine TC.seq ?_
    refine TC.block ?_
    refine TC.seq ?_
    have hlt : k < 22 := by omega
    obtain ⟨p, hp⟩ : ∃ p, (partsL c c.f 1)[k]? = some p := ⟨_, List.getElem?_eq_getElem (by rw [parts_len]; exact hlt)⟩
    have hR : Rd (((bS, row 176 ((partsL c c.f 1).flatMap Pt.cs)) :: ((b1, .cells #[.int .i64 (c.n), .int .i64 (c.f), .int .i64 (c.m), .int .i64 (c.quorum), .int .i64 (c.fresh), .int .i64 (c.grace), .int .i64 (c.window), .int .i64 (c.t0), .int .i64 (c.t1), .int .i64 (c.t2), .int .i64 (c.t3), .int .i64 (c.tol), .int .i64 (c.min), .int .i64 (c.max), .int .i64 (c.calmup), .int .i64 (c.calmdown), .int .i64 (c.podsup), .int .i64 (c.pctup), .int .i64 (c.podsdown), .int .i64 (c.pctdown), .int .i64 (c.period), .int .i64 (c.far), .int .i64 (c.strikes), .int .i64 (c.probe), .int .i64 (c.sectors), .int .u64 (c.seed)] 26 (0, 0)) :: M))) ⟨bS, 0, none⟩ ((partsL c c.f 1).flatMap Pt.cs) := Rd.get (i := 0) rfl (by rw [List.drop_zero, List.take_of_length_le (Nat.le_refl _)])
    refine TC.region ?_
    refine TL.val rfl rfl (Nat.le_of_ble_eq_true rfl) (Val.indexAddr (i := k) (r := 4 * k) rfl rfl sl173 sz176 rfl (by omega) (by omega)) ?_
    refine TL.val rfl rfl (Nat.le_of_ble_eq_true rfl) (Val.loadAggR (o := 0) (j := 4 * k) (vs := p.cs) rfl ag176 sz176 hR (by omega) (flat_seg Pt.cs_len hp) rfl) ?_
    refine TL.does (some 4) rfl rfl rfl (Does.alloc ze176 rfl) ?_
    rintro _ _ ⟨b3, rfl, rfl⟩
    refine TL.does none rfl rfl rfl (Does.store (i := 0) rfl rfl rfl sz176 rfl rfl (by first | exact Nat.le_of_ble_eq_true rfl | decide | omega) rfl rfl) ?_
    rintro _ _ ⟨rfl, rfl⟩
    refine TL.nil ?_
    refine AtX.then ?_
    refine TC.seq ?_
    subst hk
    have hpe : p = ⟨[110], c.n, 1, 16⟩ := by simpa [partsL] using hp.symm
    subst hpe
    refine TC.region ?_
    refine TL.val rfl rfl (Nat.le_of_ble_eq_true rfl) (Val.fieldAddr rfl fl176_1 sz2 rfl) ?_
    refine TL.val rfl rfl (Nat.le_of_ble_eq_true rfl) (Val.load 0 rfl ag2 rfl rfl) ?_
    refine TL.val rfl rfl (Nat.le_of_ble_eq_true rfl) (Val.fieldAddr rfl fl176_2 sz2 rfl) ?_
    refine TL.val rfl rfl (Nat.le_of_ble_eq_true rfl) (Val.load 0 rfl ag2 rfl rfl) ?_
    refine TL.val rfl rfl (Nat.le_of_ble_eq_true rfl) (Val.lss rfl rfl) ?_
    refine TL.val rfl rfl (Nat.le_of_ble_eq_true rfl) (Val.move rfl) ?_
    refine TL.gen (fun g4 hg4 => ?_)
    refine TL.gval rfl rfl (Nat.le_of_ble_eq_true rfl) rfl (Nat.le_of_ble_eq_true rfl) rfl (fun hg => by subst hg; exact (Val.fieldAddr rfl fl176_1 sz2 rfl)) ?_
    refine TL.gval rfl rfl (Nat.le_of_ble_eq_true rfl) rfl (Nat.le_of_ble_eq_true rfl) rfl (fun hg => by subst hg; exact (Val.load 0 rfl ag2 rfl rfl)) ?_
    refine TL.gval rfl rfl (Nat.le_of_ble_eq_true rfl) rfl (Nat.le_of_ble_eq_true rfl) rfl (fun hg => by subst hg; exact (Val.fieldAddr rfl fl176_3 sz2 rfl)) ?_
    refine TL.gval rfl rfl (Nat.le_of_ble_eq_true rfl) rfl (Nat.le_of_ble_eq_true rfl) rfl (fun hg => by subst hg; exact (Val.load 0 rfl ag2 rfl rfl)) ?_
    refine TL.gval rfl rfl (Nat.le_of_ble_eq_true rfl) rfl (Nat.le_of_ble_eq_true rfl) rfl (fun hg => by subst hg; exact (Val.gtr rfl rfl)) ?_
    refine TL.val rfl rfl (Nat.le_of_ble_eq_true rfl) (Val.pickOr rfl rfl rfl) ?_
    refine TL.nil ?_
    refine AtX.then ?_
    first | refine TC.condP rfl (fun c2 => ?_) (fun c2 => ?_) | refine TC.condN rfl (fun c2 => ?_) (fun c2 => ?_) | refine TC.condB rfl (fun c2 => ?_) (fun c2 => ?_) | refine TC.cond rfl (fun c2 => ?_) (fun c2 => ?_)
    · skip
      refine TC.seq ?_
      refine TC.region ?_
      refine TL.val rfl rfl (Nat.le_of_ble_eq_true rfl) (Val.fieldAddr rfl fl176_0 sz9 rfl) ?_
      refine TL.val rfl rfl (Nat.le_of_ble_eq_true rfl) (Val.load 0 rfl ag9 rfl rfl) ?_
      refine TL.val rfl rfl (Nat.le_of_ble_eq_true rfl) (Val.assign rfl) ?_
      refine TL.nil ?_
      refine AtX.then ?_
      refine TC.ret1 (fn := Try.f83) (fun _ _ h => h) rfl (RV.tmp rfl) (M' := M) (by repeat (first | exact ro_refl | exact ro_pre | refine ro_tail ?_ | refine ro_app ?_)) ?_
      exact ⟨rfl, rfl⟩
    · skip
      (exfalso; grind)
  · skip
    (exfalso; omega)

/-- quorumite/conf.May -/
theorem cMay_ok (c : Cf) (M : Hp) (hc : OkC c) : FnC Try.prog 44 #[.agg #[.int .i64 (c.n), .int .i64 (c.f), .int .i64 (c.m), .int .i64 (c.quorum), .int .i64 (c.fresh), .int .i64 (c.grace), .int .i64 (c.window), .int .i64 (c.t0), .int .i64 (c.t1), .int .i64 (c.t2), .int .i64 (c.t3), .int .i64 (c.tol), .int .i64 (c.min), .int .i64 (c.max), .int .i64 (c.calmup), .int .i64 (c.calmdown), .int .i64 (c.podsup), .int .i64 (c.pctup), .int .i64 (c.podsdown), .int .i64 (c.pctdown), .int .i64 (c.period), .int .i64 (c.far), .int .i64 (c.strikes), .int .i64 (c.probe), .int .i64 (c.sectors), .int .u64 (c.seed)]] M (fun v M' => v = .bool true ∧ M = M') := by
  refine FnC.intro Try.func44 rfl 6 rfl (by simp) (fun z => ?_)
  refine TC.env (E' := [(0, _)]) (Sub.cons rfl (Sub.nil _)) ?_
  refine TC.seq ?_
  refine TC.region ?_
  refine TL.does (some 1) rfl rfl rfl (Does.box rfl rfl) ?_
  rintro _ _ ⟨b1, rfl, rfl⟩
  refine TL.val rfl rfl (Nat.le_of_ble_eq_true rfl) (Val.assign rfl) ?_
  refine TL.nil ?_
  refine AtX.then ?_
  refine TC.env (E' := [(1, _), (2, _)]) (Sub.cons rfl (Sub.cons rfl (Sub.nil _))) ?_
  refine TC.seq ?_
  refine TC.region ?_
  refine TL.val rfl rfl (Nat.le_of_ble_eq_true rfl) (Val.loadAgg 0 rfl ag26 sz26 rfl rfl rfl) ?_
  refine TL.does (some 4) rfl rfl rfl (Does.callF go83 rfl (Wrong_ok c _ hc)) ?_
  rintro _ _ ⟨rfl, rfl⟩
  refine TL.val rfl rfl (Nat.le_of_ble_eq_true rfl) (Val.eqlL (a := []) (b := []) rfl rfl) ?_
  refine TL.val rfl rfl (Nat.le_of_ble_eq_true rfl) (Val.assign rfl) ?_
  refine TL.nil ?_
  refine AtX.then ?_
  refine TC.env (E' := [(2, _)]) (Sub.cons rfl (Sub.nil _)) ?_
  refine TC.ret1 (fn := Try.f44) (fun _ _ h => h) rfl (RV.tmp rfl) (M' := M) (by repeat (first | exact ro_refl | exact ro_pre | refine ro_tail ?_ | refine ro_app ?_)) ?_
  exact ⟨rfl, rfl⟩

/-- quorumite/conf.May -/
theorem cMay_no (c : Cf) (M : Hp) (hn : 0 ≤ c.n ∧ c.n ≤ 1000) (hf : 0 ≤ c.f ∧ c.f ≤ 16) (ht : tg c) (h1 : c.n < 1) : FnC Try.prog 44 #[.agg #[.int .i64 (c.n), .int .i64 (c.f), .int .i64 (c.m), .int .i64 (c.quorum), .int .i64 (c.fresh), .int .i64 (c.grace), .int .i64 (c.window), .int .i64 (c.t0), .int .i64 (c.t1), .int .i64 (c.t2), .int .i64 (c.t3), .int .i64 (c.tol), .int .i64 (c.min), .int .i64 (c.max), .int .i64 (c.calmup), .int .i64 (c.calmdown), .int .i64 (c.podsup), .int .i64 (c.pctup), .int .i64 (c.podsdown), .int .i64 (c.pctdown), .int .i64 (c.period), .int .i64 (c.far), .int .i64 (c.strikes), .int .i64 (c.probe), .int .i64 (c.sectors), .int .u64 (c.seed)]] M (fun v M' => v = .bool false ∧ M = M') := by
  refine FnC.intro Try.func44 rfl 6 rfl (by simp) (fun z => ?_)
  refine TC.env (E' := [(0, _)]) (Sub.cons rfl (Sub.nil _)) ?_
  refine TC.seq ?_
  refine TC.region ?_
  refine TL.does (some 1) rfl rfl rfl (Does.box rfl rfl) ?_
  rintro _ _ ⟨b1, rfl, rfl⟩
  refine TL.val rfl rfl (Nat.le_of_ble_eq_true rfl) (Val.assign rfl) ?_
  refine TL.nil ?_
  refine AtX.then ?_
  refine TC.env (E' := [(1, _), (2, _)]) (Sub.cons rfl (Sub.cons rfl (Sub.nil _))) ?_
  refine TC.seq ?_
  refine TC.region ?_
  refine TL.val rfl rfl (Nat.le_of_ble_eq_true rfl) (Val.loadAgg 0 rfl ag26 sz26 rfl rfl rfl) ?_
  refine TL.does (some 4) rfl rfl rfl (Does.callF go83 rfl (Wrong_n c _ hn hf ht h1)) ?_
  rintro _ _ ⟨rfl, rfl⟩
  refine TL.val rfl rfl (Nat.le_of_ble_eq_true rfl) (Val.eqlL (a := [110]) (b := []) rfl rfl) ?_
  refine TL.val rfl rfl (Nat.le_of_ble_eq_true rfl) (Val.assign rfl) ?_
  refine TL.nil ?_
  refine AtX.then ?_
  refine TC.env (E' := [(2, _)]) (Sub.cons rfl (Sub.nil _)) ?_
  refine TC.ret1 (fn := Try.f44) (fun _ _ h => h) rfl (RV.tmp rfl) (M' := M) (by repeat (first | exact ro_refl | exact ro_pre | refine ro_tail ?_ | refine ro_app ?_)) ?_
  exact ⟨rfl, rfl⟩

end Go.Proofs.Ytphoapajlcaoeaa
/- walks -/
set_option linter.unusedVariables false
set_option linter.unusedSimpArgs false
set_option maxRecDepth 100000
set_option maxHeartbeats 4000000
namespace Go.Proofs.Ytphoapajlcaoeaa
open Go Go.X
theorem ts_nth {c : Cf} {k : Nat} {x : Int} (h : c.ts[k]? = some x) : nth (#[.int .i64 (c.n), .int .i64 (c.f), .int .i64 (c.m), .int .i64 (c.quorum), .int .i64 (c.fresh), .int .i64 (c.grace), .int .i64 (c.window), .int .i64 (c.t0), .int .i64 (c.t1), .int .i64 (c.t2), .int .i64 (c.t3), .int .i64 (c.tol), .int .i64 (c.min), .int .i64 (c.max), .int .i64 (c.calmup), .int .i64 (c.calmdown), .int .i64 (c.podsup), .int .i64 (c.pctup), .int .i64 (c.podsdown), .int .i64 (c.pctdown), .int .i64 (c.period), .int .i64 (c.far), .int .i64 (c.strikes), .int .i64 (c.probe), .int .i64 (c.sectors), .int .u64 (c.seed)]).toList (7 + k) = some (.int .i64 x) := by
  match k, h with
  | 0, h => cases h; rfl
  | 1, h => cases h; rfl
  | 2, h => cases h; rfl
  | 3, h => cases h; rfl
  | k + 4, h => simp [Cf.ts] at h
/-- quorumite/quorumiteref1.targets -/
theorem reftargets_fn (c : Cf) (M : Hp) (ht : tg c) : FnC Try.prog 110 #[.agg #[.int .i64 (c.n), .int .i64 (c.f), .int .i64 (c.m), .int .i64 (c.quorum), .int .i64 (c.fresh), .int .i64 (c.grace), .int .i64 (c.window), .int .i64 (c.t0), .int .i64 (c.t1), .int .i64 (c.t2), .int .i64 (c.t3), .int .i64 (c.tol), .int .i64 (c.min), .int .i64 (c.max), .int .i64 (c.calmup), .int .i64 (c.calmdown), .int .i64 (c.podsup), .int .i64 (c.pctup), .int .i64 (c.podsdown), .int .i64 (c.pctdown), .int .i64 (c.period), .int .i64 (c.far), .int .i64 (c.strikes), .int .i64 (c.probe), .int .i64 (c.sectors), .int .u64 (c.seed)]] M (fun v M' => v = .bool true ∧ M = M') := by
  refine FnC.intro Try.func110 rfl 39 rfl (by simp) (fun z => ?_)
  refine TC.env (E' := [(0, _)]) (Sub.cons rfl (Sub.nil _)) ?_
  refine TC.sr ?_
  refine TL.d (Does.box rfl rfl) ?_
  rintro _ _ ⟨b1, rfl, rfl⟩
  refine TL.v (Val.assign rfl) ?_
  refine TL.nt ?_
  refine TC.seq ?_
  refine TC.sr ?_
  refine TL.v (Val.assign rfl) ?_
  refine TL.nt ?_
  refine TC.block ?_
  refine TC.loop (ι := Nat) (fun k => [(1, .pointer (some ⟨b1, 0, none⟩)), (3, .int .i64 (k : Nat))]) (fun _ => (b1, .cells #[.int .i64 (c.n), .int .i64 (c.f), .int .i64 (c.m), .int .i64 (c.quorum), .int .i64 (c.fresh), .int .i64 (c.grace), .int .i64 (c.window), .int .i64 (c.t0), .int .i64 (c.t1), .int .i64 (c.t2), .int .i64 (c.t3), .int .i64 (c.tol), .int .i64 (c.min), .int .i64 (c.max), .int .i64 (c.calmup), .int .i64 (c.calmdown), .int .i64 (c.podsup), .int .i64 (c.pctup), .int .i64 (c.podsdown), .int .i64 (c.pctdown), .int .i64 (c.period), .int .i64 (c.far), .int .i64 (c.strikes), .int .i64 (c.probe), .int .i64 (c.sectors), .int .u64 (c.seed)] 26 (0, 0)) :: M) (fun k => k ≤ 4) (fun k => 4 - k) 0 ?_ (Sub.cons rfl (Sub.cons rfl (Sub.nil _))) (fun _ h => h) ?_
  · exact Nat.zero_le _
  intro k hk
  refine TC.seq ?_
  refine TC.sr ?_
  refine TL.v (Val.move rfl) ?_
  refine TL.v (Val.lss rfl rfl) ?_
  refine TL.nt ?_
  refine TC.condP rfl (fun c1 => ?_) (fun c1 => ?_)
  · skip
    refine TC.skip ?_
    refine AtX.then ?_
    refine TC.seq ?_
    refine TC.block ?_
    refine TC.seq ?_
    have hk4 : k < 4 := by omega
    obtain ⟨x, hx⟩ : ∃ x, c.ts[k]? = some x := ⟨_, List.getElem?_eq_getElem (by show k < 4; omega)⟩
    have hx2 := ht k x hx
    refine TC.region ?_
    refine TL.v (Val.move rfl) ?_
    refine TL.v (Val.fieldAddr rfl fl26_2 sz3 rfl) ?_
    refine TL.v (Val.load 0 rfl ag3 rfl rfl) ?_
    refine TL.v (Val.lss rfl rfl) ?_
    refine TL.v (Val.move rfl) ?_
    refine TL.gen (fun g2 hg2 => ?_)
    cases g2 with
    | false =>
      refine TL.pa ?_
      refine TL.pa ?_
      refine TL.pa ?_
      refine TL.pa ?_
      refine TL.pa ?_
      refine TL.pa ?_
      refine TL.pu ?_
      refine TL.pu ?_
      refine TL.pu ?_
      refine TL.pu ?_
      refine TL.pu ?_
      refine TL.pa ?_
      refine TL.v (Val.pick rfl rfl rfl) ?_
      refine TL.v (Val.move rfl) ?_
      refine TL.gen (fun g3 hg3 => ?_)
      cases g3 with
      | false =>
        refine TL.vy (Val.move rfl) ?_
        refine TL.vy (Val.fieldAddr rfl fl26_2 sz3 rfl) ?_
        refine TL.vy (Val.load 0 rfl ag3 rfl rfl) ?_
        refine TL.vy (Val.geq rfl rfl) ?_
        refine TL.vy (Val.move rfl) ?_
        refine TL.gen (fun g4 hg4 => ?_)
        refine TL.gv rfl rfl rfl (fun hg => by subst hg; exact (Val.move rfl)) ?_
        refine TL.gv rfl rfl rfl (fun hg => by subst hg; exact (Val.fieldAddr rfl fl26_7 sz23 rfl)) ?_
        refine TL.gv rfl rfl rfl (fun hg => by subst hg; exact (Val.indexAddrA (i := k) (r := 7 + k) rfl rfl ar23 sz2 rfl hk4 (by omega))) ?_
        refine TL.gv rfl rfl rfl (fun hg => by subst hg; exact (Val.load 0 rfl ag2 rfl (v := .int .i64 x) (ts_nth hx))) ?_
        refine TL.gv rfl rfl rfl (fun hg => by subst hg; exact (Val.neqI rfl rfl)) ?_
        refine TL.vy (Val.pickAnd rfl rfl rfl) ?_
        refine TL.v (Val.pickOr rfl rfl rfl) ?_
        refine TL.nt ?_
        refine TC.cond rfl (fun c2 => ?_) (fun c2 => ?_)
        · skip
          (exfalso; clear ht hx; grind)
        · skip
          refine TC.skip ?_
          refine AtX.blk ?_
          refine AtX.then ?_
          refine TC.region ?_
          refine TL.v (Val.move rfl) ?_
          refine TL.v (Val.add rfl rfl (w_i64 (by omega) (by omega))) ?_
          refine TL.v (Val.assign rfl) ?_
          refine TL.nil ?_
          refine AtX.round (k + 1) ?_ ?_ (Sub.cons rfl (Sub.cons rfl (Sub.nil _))) (fun _ h => h)
          · omega
          · omega
      | true =>
        refine TL.pa ?_
        refine TL.pa ?_
        refine TL.pa ?_
        refine TL.pa ?_
        refine TL.pa ?_
        refine TL.pu ?_
        refine TL.pu ?_
        refine TL.pu ?_
        refine TL.pu ?_
        refine TL.pu ?_
        refine TL.pa ?_
        refine TL.v (Val.pick rfl rfl rfl) ?_
        refine TL.nt ?_
        refine TC.cond rfl (fun c3 => ?_) (fun c3 => ?_)
        · skip
          (exfalso; clear ht hx; grind)
        · skip
          refine TC.skip ?_
          refine AtX.blk ?_
          refine AtX.then ?_
          refine TC.region ?_
          refine TL.v (Val.move rfl) ?_
          refine TL.v (Val.add rfl rfl (w_i64 (by omega) (by omega))) ?_
          refine TL.v (Val.assign rfl) ?_
          refine TL.nil ?_
          refine AtX.round (k + 1) ?_ ?_ (Sub.cons rfl (Sub.cons rfl (Sub.nil _))) (fun _ h => h)
          · omega
          · omega
    | true =>
      refine TL.vy (Val.move rfl) ?_
      refine TL.vy (Val.fieldAddr rfl fl26_7 sz23 rfl) ?_
      refine TL.vy (Val.indexAddrA (i := k) (r := 7 + k) rfl rfl ar23 sz2 rfl hk4 (by omega)) ?_
      refine TL.vy (Val.load 0 rfl ag2 rfl (v := .int .i64 x) (ts_nth hx)) ?_
      refine TL.vy (Val.lss rfl rfl) ?_
      refine TL.vy (Val.move rfl) ?_
      refine TL.gen (fun g5 hg5 => ?_)
      refine TL.gv rfl rfl rfl (fun hg => by subst hg; exact (Val.move rfl)) ?_
      refine TL.gv rfl rfl rfl (fun hg => by subst hg; exact (Val.fieldAddr rfl fl26_7 sz23 rfl)) ?_
      refine TL.gv rfl rfl rfl (fun hg => by subst hg; exact (Val.indexAddrA (i := k) (r := 7 + k) rfl rfl ar23 sz2 rfl hk4 (by omega))) ?_
      refine TL.gv rfl rfl rfl (fun hg => by subst hg; exact (Val.load 0 rfl ag2 rfl (v := .int .i64 x) (ts_nth hx))) ?_
      refine TL.gv rfl rfl rfl (fun hg => by subst hg; exact (Val.gtr rfl rfl)) ?_
      refine TL.vy (Val.pickOr rfl rfl rfl) ?_
      refine TL.v (Val.pickAnd rfl rfl rfl) ?_
      refine TL.v (Val.move rfl) ?_
      refine TL.gen (fun g6 hg6 => ?_)
      cases g6 with
      | false =>
        refine TL.vy (Val.move rfl) ?_
        refine TL.vy (Val.fieldAddr rfl fl26_2 sz3 rfl) ?_
        refine TL.vy (Val.load 0 rfl ag3 rfl rfl) ?_
        refine TL.vy (Val.geq rfl rfl) ?_
        refine TL.vy (Val.move rfl) ?_
        refine TL.gen (fun g7 hg7 => ?_)
        refine TL.gv rfl rfl rfl (fun hg => by subst hg; exact (Val.move rfl)) ?_
        refine TL.gv rfl rfl rfl (fun hg => by subst hg; exact (Val.fieldAddr rfl fl26_7 sz23 rfl)) ?_
        refine TL.gv rfl rfl rfl (fun hg => by subst hg; exact (Val.indexAddrA (i := k) (r := 7 + k) rfl rfl ar23 sz2 rfl hk4 (by omega))) ?_
        refine TL.gv rfl rfl rfl (fun hg => by subst hg; exact (Val.load 0 rfl ag2 rfl (v := .int .i64 x) (ts_nth hx))) ?_
        refine TL.gv rfl rfl rfl (fun hg => by subst hg; exact (Val.neqI rfl rfl)) ?_
        refine TL.vy (Val.pickAnd rfl rfl rfl) ?_
        refine TL.v (Val.pickOr rfl rfl rfl) ?_
        refine TL.nt ?_
        refine TC.cond rfl (fun c4 => ?_) (fun c4 => ?_)
        · skip
          (exfalso; clear ht hx; grind)
        · skip
          refine TC.skip ?_
          refine AtX.blk ?_
          refine AtX.then ?_
          refine TC.region ?_
          refine TL.v (Val.move rfl) ?_
          refine TL.v (Val.add rfl rfl (w_i64 (by omega) (by omega))) ?_
          refine TL.v (Val.assign rfl) ?_
          refine TL.nil ?_
          refine AtX.round (k + 1) ?_ ?_ (Sub.cons rfl (Sub.cons rfl (Sub.nil _))) (fun _ h => h)
          · omega
          · omega
      | true =>
        refine TL.pa ?_
        refine TL.pa ?_
        refine TL.pa ?_
        refine TL.pa ?_
        refine TL.pa ?_
        refine TL.pu ?_
        refine TL.pu ?_
        refine TL.pu ?_
        refine TL.pu ?_
        refine TL.pu ?_
        refine TL.pa ?_
        refine TL.v (Val.pick rfl rfl rfl) ?_
        refine TL.nt ?_
        refine TC.cond rfl (fun c5 => ?_) (fun c5 => ?_)
        · skip
          (exfalso; clear ht hx; grind)
        · skip
          refine TC.skip ?_
          refine AtX.blk ?_
          refine AtX.then ?_
          refine TC.region ?_
          refine TL.v (Val.move rfl) ?_
          refine TL.v (Val.add rfl rfl (w_i64 (by omega) (by omega))) ?_
          refine TL.v (Val.assign rfl) ?_
          refine TL.nil ?_
          refine AtX.round (k + 1) ?_ ?_ (Sub.cons rfl (Sub.cons rfl (Sub.nil _))) (fun _ h => h)
          · omega
          · omega
  · skip
    refine TC.exit ?_
    refine AtX.seqX ?_
    refine AtX.seqX ?_
    refine AtX.hit ?_
    refine AtX.then ?_
    refine TC.sr ?_
    refine TL.v (Val.assign rfl) ?_
    refine TL.nt ?_
    refine TC.r1 (M' := M) (fn := Try.f110) (fun _ _ h => h) rfl (RV.tmp rfl) ?_
    exact ⟨rfl, rfl⟩

/-- quorumite/quorumiteref1.Wrong -/
theorem refWrong_ok (c : Cf) (M : Hp) (hc : OkC c) : FnC Try.prog 88 #[.agg #[.int .i64 (c.n), .int .i64 (c.f), .int .i64 (c.m), .int .i64 (c.quorum), .int .i64 (c.fresh), .int .i64 (c.grace), .int .i64 (c.window), .int .i64 (c.t0), .int .i64 (c.t1), .int .i64 (c.t2), .int .i64 (c.t3), .int .i64 (c.tol), .int .i64 (c.min), .int .i64 (c.max), .int .i64 (c.calmup), .int .i64 (c.calmdown), .int .i64 (c.podsup), .int .i64 (c.pctup), .int .i64 (c.podsdown), .int .i64 (c.pctdown), .int .i64 (c.period), .int .i64 (c.far), .int .i64 (c.strikes), .int .i64 (c.probe), .int .i64 (c.sectors), .int .u64 (c.seed)]] M (fun v M' => v = .string (ofL []) ∧ M = M') := by
  obtain ⟨h0, h1, h2, h3, h4, h5, h6, h7, h8, h9, h10, h11, h12, h13, h14, h15, h16, h17, h18, h19, h20, h21, h22, h23, h24, h25⟩ := id hc
  refine FnC.intro Try.func88 rfl 137 rfl (by simp) (fun z => ?_)
  refine TC.env (E' := [(0, _)]) (Sub.cons rfl (Sub.nil _)) ?_
  refine TC.sr ?_
  refine TL.d (Does.box rfl rfl) ?_
  rintro _ _ ⟨b1, rfl, rfl⟩
  refine TL.v (Val.assign rfl) ?_
  refine TL.nt ?_
  refine TC.seq ?_
  refine TC.block ?_
  refine TC.sr ?_
  refine TL.v (Val.fieldAddr rfl fl26_0 sz3 rfl) ?_
  refine TL.v (Val.load 0 rfl ag3 rfl rfl) ?_
  refine TL.d (Does.callF go89 rfl (refin_fn _ _ _ _)) ?_
  rintro _ _ ⟨rfl, rfl⟩
  refine TL.v (Val.not rfl) ?_
  refine TL.v (Val.assign rfl) ?_
  refine TL.nt ?_
  refine TC.condB rfl (fun c1 => ?_) (fun c1 => ?_)
  · skip
    (exfalso; simp [inB] at c1; try omega)
  · skip
    refine TC.sr ?_
    refine TL.v (Val.fieldAddr rfl fl26_1 sz3 rfl) ?_
    refine TL.v (Val.load 0 rfl ag3 rfl rfl) ?_
    refine TL.v (Val.lss rfl rfl) ?_
    refine TL.v (Val.move rfl) ?_
    refine TL.gen (fun g3 hg3 => ?_)
    refine TL.gv rfl rfl rfl (fun hg => by subst hg; exact (Val.fieldAddr rfl fl26_1 sz3 rfl)) ?_
    refine TL.gv rfl rfl rfl (fun hg => by subst hg; exact (Val.load 0 rfl ag3 rfl rfl)) ?_
    refine TL.gv rfl rfl rfl (fun hg => by subst hg; exact (Val.gtr rfl rfl)) ?_
    refine TL.v (Val.pickOr rfl rfl rfl) ?_
    refine TL.v (Val.move rfl) ?_
    refine TL.gen (fun g4 hg4 => ?_)
    refine TL.gv rfl rfl rfl (fun hg => by subst hg; exact (Val.fieldAddr rfl fl26_0 sz3 rfl)) ?_
    refine TL.gv rfl rfl rfl (fun hg => by subst hg; exact (Val.load 0 rfl ag3 rfl rfl)) ?_
    refine TL.gv rfl rfl rfl (fun hg => by subst hg; exact (Val.fieldAddr rfl fl26_1 sz3 rfl)) ?_
    refine TL.gv rfl rfl rfl (fun hg => by subst hg; exact (Val.load 0 rfl ag3 rfl rfl)) ?_
    refine TL.gv rfl rfl rfl (fun hg => by subst hg; exact (Val.mul rfl rfl (r := 3 * c.f) (w_i64 (by omega) (by omega)))) ?_
    refine TL.gv rfl rfl rfl (fun hg => by subst hg; exact (Val.add rfl rfl (r := 3 * c.f + 1) (w_i64 (by omega) (by omega)))) ?_
    refine TL.gv rfl rfl rfl (fun hg => by subst hg; exact (Val.lss rfl rfl)) ?_
    refine TL.v (Val.pickOr rfl rfl rfl) ?_
    refine TL.v (Val.assign rfl) ?_
    refine TL.nt ?_
    refine TC.en (E' := [(1, _), (2, _), (8, _)]) ?_
    refine TC.cond rfl (fun c2 => ?_) (fun c2 => ?_)
    · skip
      (exfalso; clear hc; grind)
    · skip
      refine TC.sr ?_
      refine TL.v (Val.fieldAddr rfl fl26_2 sz3 rfl) ?_
      refine TL.v (Val.load 0 rfl ag3 rfl rfl) ?_
      refine TL.d (Does.callF go89 rfl (refin_fn _ _ _ _)) ?_
      rintro _ _ ⟨rfl, rfl⟩
      refine TL.v (Val.not rfl) ?_
      refine TL.v (Val.assign rfl) ?_
      refine TL.nt ?_
      refine TC.condB rfl (fun c3 => ?_) (fun c3 => ?_)
      · skip
        (exfalso; simp [inB] at c3; try omega)
      · skip
        refine TC.sr ?_
        refine TL.v (Val.fieldAddr rfl fl26_3 sz3 rfl) ?_
        refine TL.v (Val.load 0 rfl ag3 rfl rfl) ?_
        refine TL.v (Val.fieldAddr rfl fl26_1 sz3 rfl) ?_
        refine TL.v (Val.load 0 rfl ag3 rfl rfl) ?_
        refine TL.v (Val.mul rfl rfl (r := 2 * c.f) (w_i64 (by omega) (by omega))) ?_
        refine TL.v (Val.add rfl rfl (r := 2 * c.f + 1) (w_i64 (by omega) (by omega))) ?_
        refine TL.v (Val.fieldAddr rfl fl26_0 sz3 rfl) ?_
        refine TL.v (Val.load 0 rfl ag3 rfl rfl) ?_
        refine TL.d (Does.callF go89 rfl (refin_fn _ _ _ _)) ?_
        rintro _ _ ⟨rfl, rfl⟩
        refine TL.v (Val.not rfl) ?_
        refine TL.v (Val.assign rfl) ?_
        refine TL.nt ?_
        refine TC.en (E' := [(1, _), (2, _), (31, _)]) ?_
        refine TC.condB rfl (fun c4 => ?_) (fun c4 => ?_)
        · skip
          (exfalso; simp [inB] at c4; try omega)
        · skip
          refine TC.sr ?_
          refine TL.v (Val.fieldAddr rfl fl26_4 sz3 rfl) ?_
          refine TL.v (Val.load 0 rfl ag3 rfl rfl) ?_
          refine TL.d (Does.callF go89 rfl (refin_fn _ _ _ _)) ?_
          rintro _ _ ⟨rfl, rfl⟩
          refine TL.v (Val.not rfl) ?_
          refine TL.v (Val.assign rfl) ?_
          refine TL.nt ?_
          refine TC.condB rfl (fun c5 => ?_) (fun c5 => ?_)
          · skip
            (exfalso; simp [inB] at c5; try omega)
          · skip
            refine TC.sr ?_
            refine TL.v (Val.fieldAddr rfl fl26_5 sz3 rfl) ?_
            refine TL.v (Val.load 0 rfl ag3 rfl rfl) ?_
            refine TL.d (Does.callF go89 rfl (refin_fn _ _ _ _)) ?_
            rintro _ _ ⟨rfl, rfl⟩
            refine TL.v (Val.not rfl) ?_
            refine TL.v (Val.assign rfl) ?_
            refine TL.nt ?_
            refine TC.en (E' := [(1, _), (2, _), (47, _)]) ?_
            refine TC.condB rfl (fun c6 => ?_) (fun c6 => ?_)
            · skip
              (exfalso; simp [inB] at c6; try omega)
            · skip
              refine TC.sr ?_
              refine TL.v (Val.fieldAddr rfl fl26_6 sz3 rfl) ?_
              refine TL.v (Val.load 0 rfl ag3 rfl rfl) ?_
              refine TL.d (Does.callF go89 rfl (refin_fn _ _ _ _)) ?_
              rintro _ _ ⟨rfl, rfl⟩
              refine TL.v (Val.not rfl) ?_
              refine TL.v (Val.assign rfl) ?_
              refine TL.nt ?_
              refine TC.condB rfl (fun c7 => ?_) (fun c7 => ?_)
              · skip
                (exfalso; simp [inB] at c7; try omega)
              · skip
                refine TC.sr ?_
                refine TL.v (Val.loadAgg 0 rfl ag26 sz26 rfl rfl rfl) ?_
                refine TL.d (Does.callF go110 rfl (reftargets_fn c _ (tg_ok hc))) ?_
                rintro _ _ ⟨rfl, rfl⟩
                refine TL.v (Val.not rfl) ?_
                refine TL.v (Val.assign rfl) ?_
                refine TL.nt ?_
                refine TC.en (E' := [(1, _), (2, _), (57, _)]) ?_
                refine TC.condB rfl (fun c8 => ?_) (fun c8 => ?_)
                · skip
                  (exfalso; simp [inB] at c8; try omega)
                · skip
                  refine TC.sr ?_
                  refine TL.v (Val.fieldAddr rfl fl26_8 sz3 rfl) ?_
                  refine TL.v (Val.load 0 rfl ag3 rfl rfl) ?_
                  refine TL.d (Does.callF go89 rfl (refin_fn _ _ _ _)) ?_
                  rintro _ _ ⟨rfl, rfl⟩
                  refine TL.v (Val.not rfl) ?_
                  refine TL.v (Val.assign rfl) ?_
                  refine TL.nt ?_
                  refine TC.condB rfl (fun c9 => ?_) (fun c9 => ?_)
                  · skip
                    (exfalso; simp [inB] at c9; try omega)
                  · skip
                    refine TC.sr ?_
                    refine TL.v (Val.fieldAddr rfl fl26_9 sz3 rfl) ?_
                    refine TL.v (Val.load 0 rfl ag3 rfl rfl) ?_
                    refine TL.d (Does.callF go89 rfl (refin_fn _ _ _ _)) ?_
                    rintro _ _ ⟨rfl, rfl⟩
                    refine TL.v (Val.not rfl) ?_
                    refine TL.v (Val.assign rfl) ?_
                    refine TL.nt ?_
                    refine TC.en (E' := [(1, _), (2, _), (66, _)]) ?_
                    refine TC.condB rfl (fun c10 => ?_) (fun c10 => ?_)
                    · skip
                      (exfalso; simp [inB] at c10; try omega)
                    · skip
                      refine TC.sr ?_
                      refine TL.v (Val.fieldAddr rfl fl26_10 sz3 rfl) ?_
                      refine TL.v (Val.load 0 rfl ag3 rfl rfl) ?_
                      refine TL.v (Val.fieldAddr rfl fl26_9 sz3 rfl) ?_
                      refine TL.v (Val.load 0 rfl ag3 rfl rfl) ?_
                      refine TL.d (Does.callF go89 rfl (refin_fn _ _ _ _)) ?_
                      rintro _ _ ⟨rfl, rfl⟩
                      refine TL.v (Val.not rfl) ?_
                      refine TL.v (Val.assign rfl) ?_
                      refine TL.nt ?_
                      refine TC.condB rfl (fun c11 => ?_) (fun c11 => ?_)
                      · skip
                        (exfalso; simp [inB] at c11; try omega)
                      · skip
                        refine TC.en (E' := [(1, _), (2, _)]) ?_
                        refine TC.sr ?_
                        refine TL.v (Val.fieldAddr rfl fl26_11 sz3 rfl) ?_
                        refine TL.v (Val.load 0 rfl ag3 rfl rfl) ?_
                        refine TL.d (Does.callF go89 rfl (refin_fn _ _ _ _)) ?_
                        rintro _ _ ⟨rfl, rfl⟩
                        refine TL.v (Val.not rfl) ?_
                        refine TL.v (Val.assign rfl) ?_
                        refine TL.nt ?_
                        refine TC.condB rfl (fun c12 => ?_) (fun c12 => ?_)
                        · skip
                          (exfalso; simp [inB] at c12; try omega)
                        · skip
                          refine TC.sr ?_
                          refine TL.v (Val.fieldAddr rfl fl26_12 sz3 rfl) ?_
                          refine TL.v (Val.load 0 rfl ag3 rfl rfl) ?_
                          refine TL.d (Does.callF go89 rfl (refin_fn _ _ _ _)) ?_
                          rintro _ _ ⟨rfl, rfl⟩
                          refine TL.v (Val.not rfl) ?_
                          refine TL.v (Val.assign rfl) ?_
                          refine TL.nt ?_
                          refine TC.en (E' := [(1, _), (2, _), (83, _)]) ?_
                          refine TC.condB rfl (fun c13 => ?_) (fun c13 => ?_)
                          · skip
                            (exfalso; simp [inB] at c13; try omega)
                          · skip
                            refine TC.sr ?_
                            refine TL.v (Val.fieldAddr rfl fl26_13 sz3 rfl) ?_
                            refine TL.v (Val.load 0 rfl ag3 rfl rfl) ?_
                            refine TL.d (Does.callF go89 rfl (refin_fn _ _ _ _)) ?_
                            rintro _ _ ⟨rfl, rfl⟩
                            refine TL.v (Val.not rfl) ?_
                            refine TL.v (Val.assign rfl) ?_
                            refine TL.nt ?_
                            refine TC.condB rfl (fun c14 => ?_) (fun c14 => ?_)
                            · skip
                              (exfalso; simp [inB] at c14; try omega)
                            · skip
                              refine TC.sr ?_
                              refine TL.v (Val.fieldAddr rfl fl26_14 sz3 rfl) ?_
                              refine TL.v (Val.load 0 rfl ag3 rfl rfl) ?_
                              refine TL.d (Does.callF go89 rfl (refin_fn _ _ _ _)) ?_
                              rintro _ _ ⟨rfl, rfl⟩
                              refine TL.v (Val.not rfl) ?_
                              refine TL.v (Val.assign rfl) ?_
                              refine TL.nt ?_
                              refine TC.en (E' := [(1, _), (2, _), (93, _)]) ?_
                              refine TC.condB rfl (fun c15 => ?_) (fun c15 => ?_)
                              · skip
                                (exfalso; simp [inB] at c15; try omega)
                              · skip
                                refine TC.sr ?_
                                refine TL.v (Val.fieldAddr rfl fl26_15 sz3 rfl) ?_
                                refine TL.v (Val.load 0 rfl ag3 rfl rfl) ?_
                                refine TL.d (Does.callF go89 rfl (refin_fn _ _ _ _)) ?_
                                rintro _ _ ⟨rfl, rfl⟩
                                refine TL.v (Val.not rfl) ?_
                                refine TL.v (Val.assign rfl) ?_
                                refine TL.nt ?_
                                refine TC.condB rfl (fun c16 => ?_) (fun c16 => ?_)
                                · skip
                                  (exfalso; simp [inB] at c16; try omega)
                                · skip
                                  refine TC.sr ?_
                                  refine TL.v (Val.fieldAddr rfl fl26_16 sz3 rfl) ?_
                                  refine TL.v (Val.load 0 rfl ag3 rfl rfl) ?_
                                  refine TL.d (Does.callF go89 rfl (refin_fn _ _ _ _)) ?_
                                  rintro _ _ ⟨rfl, rfl⟩
                                  refine TL.v (Val.not rfl) ?_
                                  refine TL.v (Val.assign rfl) ?_
                                  refine TL.nt ?_
                                  refine TC.en (E' := [(1, _), (2, _), (103, _)]) ?_
                                  refine TC.condB rfl (fun c17 => ?_) (fun c17 => ?_)
                                  · skip
                                    (exfalso; simp [inB] at c17; try omega)
                                  · skip
                                    refine TC.sr ?_
                                    refine TL.v (Val.fieldAddr rfl fl26_17 sz3 rfl) ?_
                                    refine TL.v (Val.load 0 rfl ag3 rfl rfl) ?_
                                    refine TL.d (Does.callF go89 rfl (refin_fn _ _ _ _)) ?_
                                    rintro _ _ ⟨rfl, rfl⟩
                                    refine TL.v (Val.not rfl) ?_
                                    refine TL.v (Val.assign rfl) ?_
                                    refine TL.nt ?_
                                    refine TC.condB rfl (fun c18 => ?_) (fun c18 => ?_)
                                    · skip
                                      (exfalso; simp [inB] at c18; try omega)
                                    · skip
                                      refine TC.sr ?_
                                      refine TL.v (Val.fieldAddr rfl fl26_18 sz2 rfl) ?_
                                      refine TL.v (Val.load 0 rfl ag2 rfl rfl) ?_
                                      refine TL.v (Val.lss rfl rfl) ?_
                                      refine TL.v (Val.move rfl) ?_
                                      refine TL.gen (fun g21 hg21 => ?_)
                                      refine TL.gv rfl rfl rfl (fun hg => by subst hg; exact (Val.fieldAddr rfl fl26_18 sz2 rfl)) ?_
                                      refine TL.gv rfl rfl rfl (fun hg => by subst hg; exact (Val.load 0 rfl ag2 rfl rfl)) ?_
                                      refine TL.gv rfl rfl rfl (fun hg => by subst hg; exact (Val.gtr rfl rfl)) ?_
                                      refine TL.v (Val.pickOr rfl rfl rfl) ?_
                                      refine TL.v (Val.assign rfl) ?_
                                      refine TL.nt ?_
                                      refine TC.en (E' := [(1, _), (2, _), (113, _)]) ?_
                                      refine TC.cond rfl (fun c19 => ?_) (fun c19 => ?_)
                                      · skip
                                        (exfalso; clear hc; grind)
                                      · skip
                                        refine TC.sr ?_
                                        refine TL.v (Val.fieldAddr rfl fl26_19 sz3 rfl) ?_
                                        refine TL.v (Val.load 0 rfl ag3 rfl rfl) ?_
                                        refine TL.d (Does.callF go89 rfl (refin_fn _ _ _ _)) ?_
                                        rintro _ _ ⟨rfl, rfl⟩
                                        refine TL.v (Val.not rfl) ?_
                                        refine TL.v (Val.assign rfl) ?_
                                        refine TL.nt ?_
                                        refine TC.condB rfl (fun c20 => ?_) (fun c20 => ?_)
                                        · skip
                                          (exfalso; simp [inB] at c20; try omega)
                                        · skip
                                          refine TC.sr ?_
                                          refine TL.v (Val.fieldAddr rfl fl26_20 sz3 rfl) ?_
                                          refine TL.v (Val.load 0 rfl ag3 rfl rfl) ?_
                                          refine TL.d (Does.callF go89 rfl (refin_fn _ _ _ _)) ?_
                                          rintro _ _ ⟨rfl, rfl⟩
                                          refine TL.v (Val.not rfl) ?_
                                          refine TL.v (Val.assign rfl) ?_
                                          refine TL.nt ?_
                                          refine TC.en (E' := [(1, _), (2, _), (127, _)]) ?_
                                          refine TC.condB rfl (fun c21 => ?_) (fun c21 => ?_)
                                          · skip
                                            (exfalso; simp [inB] at c21; try omega)
                                          · skip
                                            refine TC.sr ?_
                                            refine TL.v (Val.fieldAddr rfl fl26_21 sz3 rfl) ?_
                                            refine TL.v (Val.load 0 rfl ag3 rfl rfl) ?_
                                            refine TL.d (Does.callF go89 rfl (refin_fn _ _ _ _)) ?_
                                            rintro _ _ ⟨rfl, rfl⟩
                                            refine TL.v (Val.not rfl) ?_
                                            refine TL.v (Val.assign rfl) ?_
                                            refine TL.nt ?_
                                            refine TC.condB rfl (fun c22 => ?_) (fun c22 => ?_)
                                            · skip
                                              (exfalso; simp [inB] at c22; try omega)
                                            · skip
                                              refine TC.skip ?_
                                              refine AtX.blk ?_
                                              refine AtX.then ?_
                                              refine TC.sr ?_
                                              refine TL.v (Val.assign rfl) ?_
                                              refine TL.nt ?_
                                              refine TC.r1 (M' := M) (fn := Try.f88) (fun _ _ h => h) rfl (RV.tmp rfl) ?_
                                              exact ⟨rfl, rfl⟩

/-- quorumite/quorumiteref1.MayConf -/
theorem refMC_ok (c : Cf) (M : Hp) (hc : OkC c) : FnC Try.prog 53 #[.agg #[.int .i64 (c.n), .int .i64 (c.f), .int .i64 (c.m), .int .i64 (c.quorum), .int .i64 (c.fresh), .int .i64 (c.grace), .int .i64 (c.window), .int .i64 (c.t0), .int .i64 (c.t1), .int .i64 (c.t2), .int .i64 (c.t3), .int .i64 (c.tol), .int .i64 (c.min), .int .i64 (c.max), .int .i64 (c.calmup), .int .i64 (c.calmdown), .int .i64 (c.podsup), .int .i64 (c.pctup), .int .i64 (c.podsdown), .int .i64 (c.pctdown), .int .i64 (c.period), .int .i64 (c.far), .int .i64 (c.strikes), .int .i64 (c.probe), .int .i64 (c.sectors), .int .u64 (c.seed)]] M (fun v M' => v = .bool true ∧ M = M') := by
  refine FnC.intro Try.func53 rfl 6 rfl (by simp) (fun z => ?_)
  refine TC.env (E' := [(0, _)]) (Sub.cons rfl (Sub.nil _)) ?_
  refine TC.sr ?_
  refine TL.d (Does.box rfl rfl) ?_
  rintro _ _ ⟨b1, rfl, rfl⟩
  refine TL.v (Val.assign rfl) ?_
  refine TL.nt ?_
  refine TC.sr ?_
  refine TL.v (Val.loadAgg 0 rfl ag26 sz26 rfl rfl rfl) ?_
  refine TL.d (Does.callF go88 rfl (refWrong_ok c _ hc)) ?_
  rintro _ _ ⟨rfl, rfl⟩
  refine TL.v (Val.eqlL (a := []) (b := []) rfl rfl) ?_
  refine TL.v (Val.assign rfl) ?_
  refine TL.nt ?_
  refine TC.r1 (M' := M) (fn := Try.f53) (fun _ _ h => h) rfl (RV.tmp rfl) ?_
  exact ⟨rfl, rfl⟩

end Go.Proofs.Ytphoapajlcaoeaa
/- walks -/
set_option linter.unusedVariables false
set_option linter.unusedSimpArgs false
set_option maxRecDepth 100000
set_option maxHeartbeats 4000000
namespace Go.Proofs.Ytphoapajlcaoeaa
open Go Go.X
/-- quorumite/wire.in -/
theorem in_true (n lo hi : Int) (M : Hp) (h : lo ≤ n ∧ n ≤ hi) : FnC Try.prog 84 #[.int .i64 n, .int .i64 lo, .int .i64 hi] M (fun v M' => v = .bool true ∧ M = M') := by
  refine FnC.intro Try.func84 rfl 15 rfl (by simp) (fun z => ?_)
  refine TC.env (E' := [(0, _), (1, _), (2, _)]) (Sub.cons rfl (Sub.cons rfl (Sub.cons rfl (Sub.nil _)))) ?_
  refine TC.seq ?_
  refine TC.region ?_
  refine TL.val rfl rfl (Nat.le_of_ble_eq_true rfl) (Val.assign rfl) ?_
  refine TL.nil ?_
  refine AtX.then ?_
  refine TC.seq ?_
  refine TC.region ?_
  refine TL.val rfl rfl (Nat.le_of_ble_eq_true rfl) (Val.move rfl) ?_
  refine TL.val rfl rfl (Nat.le_of_ble_eq_true rfl) (Val.move rfl) ?_
  refine TL.val rfl rfl (Nat.le_of_ble_eq_true rfl) (Val.same (v' := .bool true) (Val.geq rfl rfl) (by rw [decide_eq_true h.1])) ?_
  refine TL.val rfl rfl (Nat.le_of_ble_eq_true rfl) (Val.move rfl) ?_
  refine TL.valYes rfl rfl (Nat.le_of_ble_eq_true rfl) rfl (Nat.le_of_ble_eq_true rfl) rfl (Val.move rfl) ?_
  refine TL.valYes rfl rfl (Nat.le_of_ble_eq_true rfl) rfl (Nat.le_of_ble_eq_true rfl) rfl (Val.move rfl) ?_
  refine TL.valYes rfl rfl (Nat.le_of_ble_eq_true rfl) rfl (Nat.le_of_ble_eq_true rfl) rfl (Val.same (v' := .bool true) (Val.leq rfl rfl) (by rw [decide_eq_true h.2])) ?_
  refine TL.val rfl rfl (Nat.le_of_ble_eq_true rfl) (Val.pickAnd rfl rfl rfl) ?_
  refine TL.val rfl rfl (Nat.le_of_ble_eq_true rfl) (Val.assign rfl) ?_
  refine TL.nil ?_
  refine AtX.then ?_
  refine TC.env (E' := [(6, _)]) (Sub.cons rfl (Sub.nil _)) ?_
  refine TC.ret1 (fn := Try.f84) (fun _ _ h => h) rfl (RV.tmp rfl) (fun _ h => h) ?_
  exact ⟨rfl, rfl⟩

/-- quorumite/wire.May -/
theorem May_true (m : Ms) (M : Hp) (hm : mayM m = true) : FnC Try.prog 47 #[.agg #[.int .i64 m.kind, .int .i64 m.who, .int .i64 m.gen, .int .i64 m.seq, .int .i64 m.epoch, .int .i64 m.value, .int .i64 m.metric]] M (fun v M' => v = .bool true ∧ M = M') := by
  obtain ⟨hk, hw, hg, hs, he, hme, hv⟩ := mayM_iff.1 hm
  refine FnC.intro Try.func47 rfl 43 rfl (by simp) (fun z => ?_)
  refine TC.env (E' := [(0, _)]) (Sub.cons rfl (Sub.nil _)) ?_
  refine TC.seq ?_
  refine TC.region ?_
  refine TL.does (some 1) rfl rfl rfl (Does.box rfl rfl) ?_
  rintro _ _ ⟨b1, rfl, rfl⟩
  refine TL.val rfl rfl (Nat.le_of_ble_eq_true rfl) (Val.assign rfl) ?_
  refine TL.nil ?_
  refine AtX.then ?_
  refine TC.env (E' := [(1, _), (2, _)]) (Sub.cons rfl (Sub.cons rfl (Sub.nil _))) ?_
  refine TC.seq ?_
  refine TC.region ?_
  refine TL.val rfl rfl (Nat.le_of_ble_eq_true rfl) (Val.assign rfl) ?_
  refine TL.val rfl rfl (Nat.le_of_ble_eq_true rfl) (Val.assign rfl) ?_
  refine TL.nil ?_
  refine AtX.then ?_
  refine TC.env (E' := [(1, _), (2, _), (3, _), (4, _)]) (Sub.cons rfl (Sub.cons rfl (Sub.cons rfl (Sub.cons rfl (Sub.nil _))))) ?_
  refine TC.seq ?_
  refine TC.seq ?_
  refine TC.region ?_
  refine TL.val rfl rfl (Nat.le_of_ble_eq_true rfl) (Val.fieldAddr rfl fl61_0 sz3 rfl) ?_
  refine TL.val rfl rfl (Nat.le_of_ble_eq_true rfl) (Val.load 0 rfl ag3 rfl rfl) ?_
  refine TL.val rfl rfl (Nat.le_of_ble_eq_true rfl) (Val.eqlI rfl rfl) ?_
  refine TL.nil ?_
  refine AtX.then ?_
  refine TC.env (E' := [(1, _), (2, _), (3, _), (4, _), (7, _)]) (Sub.cons rfl (Sub.cons rfl (Sub.cons rfl (Sub.cons rfl (Sub.cons rfl (Sub.nil _)))))) ?_
  first | refine TC.condP rfl (fun c1 => ?_) (fun c1 => ?_) | refine TC.condN rfl (fun c1 => ?_) (fun c1 => ?_) | refine TC.condB rfl (fun c1 => ?_) (fun c1 => ?_) | refine TC.cond rfl (fun c1 => ?_) (fun c1 => ?_)
  · skip
    refine TC.env (E' := [(1, _), (2, _), (3, _), (4, _)]) (Sub.cons rfl (Sub.cons rfl (Sub.cons rfl (Sub.cons rfl (Sub.nil _))))) ?_
    refine TC.region ?_
    refine TL.val rfl rfl (Nat.le_of_ble_eq_true rfl) (Val.assign rfl) ?_
    refine TL.val rfl rfl (Nat.le_of_ble_eq_true rfl) (Val.assign rfl) ?_
    refine TL.nil ?_
    refine AtX.then ?_
    refine TC.env (E' := [(1, _), (2, _), (3, _), (4, _)]) (Sub.cons rfl (Sub.cons rfl (Sub.cons rfl (Sub.cons rfl (Sub.nil _))))) ?_
    refine TC.seq ?_
    refine TC.region ?_
    refine TL.val rfl rfl (Nat.le_of_ble_eq_true rfl) (Val.fieldAddr rfl fl61_0 sz3 rfl) ?_
    refine TL.val rfl rfl (Nat.le_of_ble_eq_true rfl) (Val.load 0 rfl ag3 rfl rfl) ?_
    refine TL.does (some 10) rfl rfl rfl (Does.callF go84 rfl (in_true _ _ _ _ ⟨by omega, by omega⟩)) ?_
    rintro _ _ ⟨rfl, rfl⟩
    refine TL.val rfl rfl (Nat.le_of_ble_eq_true rfl) (Val.move rfl) ?_
    refine TL.valYes rfl rfl (Nat.le_of_ble_eq_true rfl) rfl (Nat.le_of_ble_eq_true rfl) rfl (Val.fieldAddr rfl fl61_1 sz3 rfl) ?_
    refine TL.valYes rfl rfl (Nat.le_of_ble_eq_true rfl) rfl (Nat.le_of_ble_eq_true rfl) rfl (Val.load 0 rfl ag3 rfl rfl) ?_
    refine TL.doesYes (some 14) rfl rfl rfl (Nat.le_of_ble_eq_true rfl) rfl rfl (Does.callF go84 rfl (in_true _ _ _ _ ⟨by omega, by omega⟩)) ?_
    rintro _ _ ⟨rfl, rfl⟩
    refine TL.val rfl rfl (Nat.le_of_ble_eq_true rfl) (Val.pickAnd rfl rfl rfl) ?_
    refine TL.val rfl rfl (Nat.le_of_ble_eq_true rfl) (Val.move rfl) ?_
    refine TL.valYes rfl rfl (Nat.le_of_ble_eq_true rfl) rfl (Nat.le_of_ble_eq_true rfl) rfl (Val.fieldAddr rfl fl61_2 sz3 rfl) ?_
    refine TL.valYes rfl rfl (Nat.le_of_ble_eq_true rfl) rfl (Nat.le_of_ble_eq_true rfl) rfl (Val.load 0 rfl ag3 rfl rfl) ?_
    refine TL.doesYes (some 19) rfl rfl rfl (Nat.le_of_ble_eq_true rfl) rfl rfl (Does.callF go84 rfl (in_true _ _ _ _ ⟨by omega, by omega⟩)) ?_
    rintro _ _ ⟨rfl, rfl⟩
    refine TL.val rfl rfl (Nat.le_of_ble_eq_true rfl) (Val.pickAnd rfl rfl rfl) ?_
    refine TL.val rfl rfl (Nat.le_of_ble_eq_true rfl) (Val.move rfl) ?_
    refine TL.valYes rfl rfl (Nat.le_of_ble_eq_true rfl) rfl (Nat.le_of_ble_eq_true rfl) rfl (Val.fieldAddr rfl fl61_3 sz2 rfl) ?_
    refine TL.valYes rfl rfl (Nat.le_of_ble_eq_true rfl) rfl (Nat.le_of_ble_eq_true rfl) rfl (Val.load 0 rfl ag2 rfl rfl) ?_
    refine TL.doesYes (some 24) rfl rfl rfl (Nat.le_of_ble_eq_true rfl) rfl rfl (Does.callF go84 rfl (in_true _ _ _ _ ⟨by omega, by omega⟩)) ?_
    rintro _ _ ⟨rfl, rfl⟩
    refine TL.val rfl rfl (Nat.le_of_ble_eq_true rfl) (Val.pickAnd rfl rfl rfl) ?_
    refine TL.val rfl rfl (Nat.le_of_ble_eq_true rfl) (Val.move rfl) ?_
    refine TL.valYes rfl rfl (Nat.le_of_ble_eq_true rfl) rfl (Nat.le_of_ble_eq_true rfl) rfl (Val.fieldAddr rfl fl61_4 sz2 rfl) ?_
    refine TL.valYes rfl rfl (Nat.le_of_ble_eq_true rfl) rfl (Nat.le_of_ble_eq_true rfl) rfl (Val.load 0 rfl ag2 rfl rfl) ?_
    refine TL.doesYes (some 29) rfl rfl rfl (Nat.le_of_ble_eq_true rfl) rfl rfl (Does.callF go84 rfl (in_true _ _ _ _ ⟨by omega, by omega⟩)) ?_
    rintro _ _ ⟨rfl, rfl⟩
    refine TL.val rfl rfl (Nat.le_of_ble_eq_true rfl) (Val.pickAnd rfl rfl rfl) ?_
    refine TL.val rfl rfl (Nat.le_of_ble_eq_true rfl) (Val.move rfl) ?_
    refine TL.valYes rfl rfl (Nat.le_of_ble_eq_true rfl) rfl (Nat.le_of_ble_eq_true rfl) rfl (Val.fieldAddr rfl fl61_6 sz3 rfl) ?_
    refine TL.valYes rfl rfl (Nat.le_of_ble_eq_true rfl) rfl (Nat.le_of_ble_eq_true rfl) rfl (Val.load 0 rfl ag3 rfl rfl) ?_
    refine TL.valYes rfl rfl (Nat.le_of_ble_eq_true rfl) rfl (Nat.le_of_ble_eq_true rfl) rfl (Val.move rfl) ?_
    refine TL.doesYes (some 35) rfl rfl rfl (Nat.le_of_ble_eq_true rfl) rfl rfl (Does.callF go84 rfl (in_true _ _ _ _ ⟨by omega, by omega⟩)) ?_
    rintro _ _ ⟨rfl, rfl⟩
    refine TL.val rfl rfl (Nat.le_of_ble_eq_true rfl) (Val.pickAnd rfl rfl rfl) ?_
    refine TL.val rfl rfl (Nat.le_of_ble_eq_true rfl) (Val.move rfl) ?_
    refine TL.valYes rfl rfl (Nat.le_of_ble_eq_true rfl) rfl (Nat.le_of_ble_eq_true rfl) rfl (Val.fieldAddr rfl fl61_5 sz2 rfl) ?_
    refine TL.valYes rfl rfl (Nat.le_of_ble_eq_true rfl) rfl (Nat.le_of_ble_eq_true rfl) rfl (Val.load 0 rfl ag2 rfl rfl) ?_
    refine TL.valYes rfl rfl (Nat.le_of_ble_eq_true rfl) rfl (Nat.le_of_ble_eq_true rfl) rfl (Val.move rfl) ?_
    refine TL.doesYes (some 41) rfl rfl rfl (Nat.le_of_ble_eq_true rfl) rfl rfl (Does.callF go84 rfl (in_true _ _ _ _ ⟨by omega, by omega⟩)) ?_
    rintro _ _ ⟨rfl, rfl⟩
    refine TL.val rfl rfl (Nat.le_of_ble_eq_true rfl) (Val.pickAnd rfl rfl rfl) ?_
    refine TL.val rfl rfl (Nat.le_of_ble_eq_true rfl) (Val.assign rfl) ?_
    refine TL.nil ?_
    refine AtX.then ?_
    refine TC.env (E' := [(2, _)]) (Sub.cons rfl (Sub.nil _)) ?_
    refine TC.ret1 (fn := Try.f47) (fun _ _ h => h) rfl (RV.tmp rfl) (M' := M) (by repeat (first | exact ro_refl | exact ro_pre | refine ro_tail ?_ | refine ro_app ?_)) ?_
    exact ⟨rfl, rfl⟩
  · skip
    refine TC.env (E' := [(1, _), (2, _), (3, _), (4, _)]) (Sub.cons rfl (Sub.cons rfl (Sub.cons rfl (Sub.cons rfl (Sub.nil _))))) ?_
    refine TC.skip ?_
    refine AtX.then ?_
    refine TC.env (E' := [(1, _), (2, _), (3, _), (4, _)]) (Sub.cons rfl (Sub.cons rfl (Sub.cons rfl (Sub.cons rfl (Sub.nil _))))) ?_
    refine TC.seq ?_
    refine TC.region ?_
    refine TL.val rfl rfl (Nat.le_of_ble_eq_true rfl) (Val.fieldAddr rfl fl61_0 sz3 rfl) ?_
    refine TL.val rfl rfl (Nat.le_of_ble_eq_true rfl) (Val.load 0 rfl ag3 rfl rfl) ?_
    refine TL.does (some 10) rfl rfl rfl (Does.callF go84 rfl (in_true _ _ _ _ ⟨by omega, by omega⟩)) ?_
    rintro _ _ ⟨rfl, rfl⟩
    refine TL.val rfl rfl (Nat.le_of_ble_eq_true rfl) (Val.move rfl) ?_
    refine TL.valYes rfl rfl (Nat.le_of_ble_eq_true rfl) rfl (Nat.le_of_ble_eq_true rfl) rfl (Val.fieldAddr rfl fl61_1 sz3 rfl) ?_
    refine TL.valYes rfl rfl (Nat.le_of_ble_eq_true rfl) rfl (Nat.le_of_ble_eq_true rfl) rfl (Val.load 0 rfl ag3 rfl rfl) ?_
    refine TL.doesYes (some 14) rfl rfl rfl (Nat.le_of_ble_eq_true rfl) rfl rfl (Does.callF go84 rfl (in_true _ _ _ _ ⟨by omega, by omega⟩)) ?_
    rintro _ _ ⟨rfl, rfl⟩
    refine TL.val rfl rfl (Nat.le_of_ble_eq_true rfl) (Val.pickAnd rfl rfl rfl) ?_
    refine TL.val rfl rfl (Nat.le_of_ble_eq_true rfl) (Val.move rfl) ?_
    refine TL.valYes rfl rfl (Nat.le_of_ble_eq_true rfl) rfl (Nat.le_of_ble_eq_true rfl) rfl (Val.fieldAddr rfl fl61_2 sz3 rfl) ?_
    refine TL.valYes rfl rfl (Nat.le_of_ble_eq_true rfl) rfl (Nat.le_of_ble_eq_true rfl) rfl (Val.load 0 rfl ag3 rfl rfl) ?_
    refine TL.doesYes (some 19) rfl rfl rfl (Nat.le_of_ble_eq_true rfl) rfl rfl (Does.callF go84 rfl (in_true _ _ _ _ ⟨by omega, by omega⟩)) ?_
    rintro _ _ ⟨rfl, rfl⟩
    refine TL.val rfl rfl (Nat.le_of_ble_eq_true rfl) (Val.pickAnd rfl rfl rfl) ?_
    refine TL.val rfl rfl (Nat.le_of_ble_eq_true rfl) (Val.move rfl) ?_
    refine TL.valYes rfl rfl (Nat.le_of_ble_eq_true rfl) rfl (Nat.le_of_ble_eq_true rfl) rfl (Val.fieldAddr rfl fl61_3 sz2 rfl) ?_
    refine TL.valYes rfl rfl (Nat.le_of_ble_eq_true rfl) rfl (Nat.le_of_ble_eq_true rfl) rfl (Val.load 0 rfl ag2 rfl rfl) ?_
    refine TL.doesYes (some 24) rfl rfl rfl (Nat.le_of_ble_eq_true rfl) rfl rfl (Does.callF go84 rfl (in_true _ _ _ _ ⟨by omega, by omega⟩)) ?_
    rintro _ _ ⟨rfl, rfl⟩
    refine TL.val rfl rfl (Nat.le_of_ble_eq_true rfl) (Val.pickAnd rfl rfl rfl) ?_
    refine TL.val rfl rfl (Nat.le_of_ble_eq_true rfl) (Val.move rfl) ?_
    refine TL.valYes rfl rfl (Nat.le_of_ble_eq_true rfl) rfl (Nat.le_of_ble_eq_true rfl) rfl (Val.fieldAddr rfl fl61_4 sz2 rfl) ?_
    refine TL.valYes rfl rfl (Nat.le_of_ble_eq_true rfl) rfl (Nat.le_of_ble_eq_true rfl) rfl (Val.load 0 rfl ag2 rfl rfl) ?_
    refine TL.doesYes (some 29) rfl rfl rfl (Nat.le_of_ble_eq_true rfl) rfl rfl (Does.callF go84 rfl (in_true _ _ _ _ ⟨by omega, by omega⟩)) ?_
    rintro _ _ ⟨rfl, rfl⟩
    refine TL.val rfl rfl (Nat.le_of_ble_eq_true rfl) (Val.pickAnd rfl rfl rfl) ?_
    refine TL.val rfl rfl (Nat.le_of_ble_eq_true rfl) (Val.move rfl) ?_
    refine TL.valYes rfl rfl (Nat.le_of_ble_eq_true rfl) rfl (Nat.le_of_ble_eq_true rfl) rfl (Val.fieldAddr rfl fl61_6 sz3 rfl) ?_
    refine TL.valYes rfl rfl (Nat.le_of_ble_eq_true rfl) rfl (Nat.le_of_ble_eq_true rfl) rfl (Val.load 0 rfl ag3 rfl rfl) ?_
    refine TL.valYes rfl rfl (Nat.le_of_ble_eq_true rfl) rfl (Nat.le_of_ble_eq_true rfl) rfl (Val.move rfl) ?_
    refine TL.doesYes (some 35) rfl rfl rfl (Nat.le_of_ble_eq_true rfl) rfl rfl (Does.callF go84 rfl (in_true _ _ _ _ ⟨by omega, by omega⟩)) ?_
    rintro _ _ ⟨rfl, rfl⟩
    refine TL.val rfl rfl (Nat.le_of_ble_eq_true rfl) (Val.pickAnd rfl rfl rfl) ?_
    refine TL.val rfl rfl (Nat.le_of_ble_eq_true rfl) (Val.move rfl) ?_
    refine TL.valYes rfl rfl (Nat.le_of_ble_eq_true rfl) rfl (Nat.le_of_ble_eq_true rfl) rfl (Val.fieldAddr rfl fl61_5 sz2 rfl) ?_
    refine TL.valYes rfl rfl (Nat.le_of_ble_eq_true rfl) rfl (Nat.le_of_ble_eq_true rfl) rfl (Val.load 0 rfl ag2 rfl rfl) ?_
    refine TL.valYes rfl rfl (Nat.le_of_ble_eq_true rfl) rfl (Nat.le_of_ble_eq_true rfl) rfl (Val.move rfl) ?_
    refine TL.doesYes (some 41) rfl rfl rfl (Nat.le_of_ble_eq_true rfl) rfl rfl (Does.callF go84 rfl (in_true _ _ _ _ ⟨by omega, by omega⟩)) ?_
    rintro _ _ ⟨rfl, rfl⟩
    refine TL.val rfl rfl (Nat.le_of_ble_eq_true rfl) (Val.pickAnd rfl rfl rfl) ?_
    refine TL.val rfl rfl (Nat.le_of_ble_eq_true rfl) (Val.assign rfl) ?_
    refine TL.nil ?_
    refine AtX.then ?_
    refine TC.env (E' := [(2, _)]) (Sub.cons rfl (Sub.nil _)) ?_
    refine TC.ret1 (fn := Try.f47) (fun _ _ h => h) rfl (RV.tmp rfl) (M' := M) (by repeat (first | exact ro_refl | exact ro_pre | refine ro_tail ?_ | refine ro_app ?_)) ?_
    exact ⟨rfl, rfl⟩

/-- quorumite/wire.Put -/
theorem wPut_fn (m : Ms) (M : Hp) (hm : mayM m = true) : FnC Try.prog 38 #[.agg #[.int .i64 m.kind, .int .i64 m.who, .int .i64 m.gen, .int .i64 m.seq, .int .i64 m.epoch, .int .i64 m.value, .int .i64 m.metric]] M (fun v M' => ∃ b c sp, v = .tuple #[.slice (some ⟨b, 0, none⟩) 32 c, .int .i64 0] ∧ 32 + sp.length = c ∧ M' = (b, row 5 (bv (putM m) ++ sp)) :: M) := by
  refine FnC.intro Try.func38 rfl 45 rfl (by simp) (fun z => ?_)
  refine TC.env (E' := [(0, _)]) (Sub.cons rfl (Sub.nil _)) ?_
  refine TC.seq ?_
  refine TC.region ?_
  refine TL.does (some 1) rfl rfl rfl (Does.box rfl rfl) ?_
  rintro _ _ ⟨b1, rfl, rfl⟩
  refine TL.val rfl rfl (Nat.le_of_ble_eq_true rfl) (Val.assign rfl) ?_
  refine TL.val rfl rfl (Nat.le_of_ble_eq_true rfl) (Val.assign rfl) ?_
  refine TL.nil ?_
  refine AtX.then ?_
  refine TC.env (E' := [(1, _), (2, _), (3, _)]) (Sub.cons rfl (Sub.cons rfl (Sub.cons rfl (Sub.nil _)))) ?_
  refine TC.seq ?_
  refine TC.seq ?_
  refine TC.region ?_
  refine TL.val rfl rfl (Nat.le_of_ble_eq_true rfl) (Val.loadAgg 0 rfl ag61 sz61 rfl rfl rfl) ?_
  refine TL.does (some 8) rfl rfl rfl (Does.callF go47 rfl (May_true m _ hm)) ?_
  rintro _ _ ⟨rfl, rfl⟩
  refine TL.val rfl rfl (Nat.le_of_ble_eq_true rfl) (Val.not rfl) ?_
  refine TL.nil ?_
  refine AtX.then ?_
  refine TC.env (E' := [(1, _), (2, _), (3, _), (9, _)]) (Sub.cons rfl (Sub.cons rfl (Sub.cons rfl (Sub.cons rfl (Sub.nil _))))) ?_
  first | refine TC.condP rfl (fun c1 => ?_) (fun c1 => ?_) | refine TC.condN rfl (fun c1 => ?_) (fun c1 => ?_) | refine TC.condB rfl (fun c1 => ?_) (fun c1 => ?_) | refine TC.cond rfl (fun c1 => ?_) (fun c1 => ?_)
  · skip
    cases c1
  · skip
    refine TC.env (E' := [(1, _), (2, _), (3, _)]) (Sub.cons rfl (Sub.cons rfl (Sub.cons rfl (Sub.nil _)))) ?_
    refine TC.skip ?_
    refine AtX.then ?_
    refine TC.env (E' := [(1, _), (2, _), (3, _)]) (Sub.cons rfl (Sub.cons rfl (Sub.cons rfl (Sub.nil _)))) ?_
    refine TC.seq ?_
    refine TC.drawL ((b1, .cells #[.int .i64 m.kind, .int .i64 m.who, .int .i64 m.gen, .int .i64 m.seq, .int .i64 m.epoch, .int .i64 m.value, .int .i64 m.metric] 61 (0, 0)) :: M) mixed 17 ?_
    refine TA.tk 0 1 rfl rfl rfl (Val.fieldAddr rfl fl61_0 sz3 rfl) ?_
    refine TA.tk 1 3 rfl rfl rfl (Val.load 0 rfl ag3 rfl rfl) ?_
    refine TA.tk 2 7 rfl rfl rfl (Val.convI rfl iu3 in5 w_b8) ?_
    refine TA.tk 3 15 rfl rfl rfl (Val.fieldAddr rfl fl61_1 sz3 rfl) ?_
    refine TA.tk 4 31 rfl rfl rfl (Val.load 0 rfl ag3 rfl rfl) ?_
    refine TA.tk 5 63 rfl rfl rfl (Val.convI rfl iu3 in5 w_b8) ?_
    refine TA.tk 6 127 rfl rfl rfl (Val.fieldAddr rfl fl61_6 sz3 rfl) ?_
    refine TA.tk 7 255 rfl rfl rfl (Val.load 0 rfl ag3 rfl rfl) ?_
    refine TA.tk 8 511 rfl rfl rfl (Val.convI rfl iu3 in5 w_b8) ?_
    refine TA.tk 10 1535 rfl rfl rfl (Val.fieldAddr rfl fl61_2 sz3 rfl) ?_
    refine TA.tk 11 3583 rfl rfl rfl (Val.load 0 rfl ag3 rfl rfl) ?_
    refine TA.tk 12 7679 rfl rfl rfl (Val.convI rfl iu3 in24 rfl) ?_
    refine TA.two 9 13 (by kernel_rfl) ?_ ?_
    · skip
      refine TO.dz 8191 (some 19) rfl rfl rfl rfl (Does.buildSlice sl37 sz5 ze5 (by decide) (by decide) rfl rfl rfl) ?_
      rintro _ _ ⟨bH, rfl, rfl⟩
      refine roK ?_
      refine TA.one 13 (by kernel_rfl) ?_
      refine TO.dz 16383 (some 23) rfl rfl rfl rfl (Does.callF go78 rfl (sipPut_fn _ _)) ?_
      rintro _ _ ⟨bP, cP, spP, rfl, hcP, rfl⟩
      refine roK ?_
      refine TA.tk 14 32767 rfl rfl rfl (Val.sliceTo (j := 4) rfl sl37 sz5 rfl rfl (by omega)) ?_
      refine TA.one 15 (by kernel_rfl) ?_
      refine TO.dz 65535 (some 25) rfl rfl rfl rfl (Does.appendS (xs := bv [1, Go.X.b8 m.kind, Go.X.b8 m.who, Go.X.b8 m.metric]) (ys := bv ((put8 (IntKind.u64.wrap m.gen)).take 4)) (some (bH, 4, [])) ((b1, .cells #[.int .i64 m.kind, .int .i64 m.who, .int .i64 m.gen, .int .i64 m.seq, .int .i64 m.epoch, .int .i64 m.value, .int .i64 m.metric] 61 (0, 0)) :: M) (fun w h => ro_del 0 rfl w h) rfl rfl sl37 sz5 by5 ze5 rfl ⟨rfl, rfl⟩ (srcB us37 (rd_rowB (i := 0) rfl 4 (by simp))) (by simp) (bv_one _) (by omega) (by omega)) ?_
      rintro _ _ ⟨σ, rfl, hok, rfl⟩
      rw [← bv_append, show [1, Go.X.b8 m.kind, Go.X.b8 m.who, Go.X.b8 m.metric] ++ ((put8 (IntKind.u64.wrap m.gen)).take 4) = putTo m 0 from (putTo_0 m).symm] at hok ⊢
      refine roK ?_
      refine TA.tk 16 131071 rfl rfl rfl (Val.assign rfl) ?_
      refine TA.done (by kernel_rfl) ?_
      refine AtX.then ?_
      refine TC.env (E' := [(1, _), (2, _), (3, _), (4, _)]) (Sub.cons rfl (Sub.cons rfl (Sub.cons rfl (Sub.cons rfl (Sub.nil _))))) ?_
      refine TC.seq ?_
      refine TC.seq ?_
      refine TC.heap (M' := (b1, .cells #[.int .i64 m.kind, .int .i64 m.who, .int .i64 m.gen, .int .i64 m.seq, .int .i64 m.epoch, .int .i64 m.value, .int .i64 m.metric] 61 (0, 0)) :: (slH σ 5 (bv (putTo m 0)) ++ M)) ro_mid ?_
      refine TC.region ?_
      refine TL.val rfl rfl (Nat.le_of_ble_eq_true rfl) (Val.fieldAddr rfl fl61_3 sz2 rfl) ?_
      refine TL.val rfl rfl (Nat.le_of_ble_eq_true rfl) (Val.load 0 rfl ag2 rfl rfl) ?_
      refine TL.val rfl rfl (Nat.le_of_ble_eq_true rfl) (Val.fieldAddr rfl fl61_4 sz2 rfl) ?_
      refine TL.val rfl rfl (Nat.le_of_ble_eq_true rfl) (Val.load 0 rfl ag2 rfl rfl) ?_
      refine TL.val rfl rfl (Nat.le_of_ble_eq_true rfl) (Val.fieldAddr rfl fl61_5 sz2 rfl) ?_
      refine TL.val rfl rfl (Nat.le_of_ble_eq_true rfl) (Val.load 0 rfl ag2 rfl rfl) ?_
      refine TL.does (some 32) rfl rfl rfl (Does.buildSlice sl36 sz2 ze2 (by decide) (by decide) rfl rfl rfl) ?_
      rintro _ _ ⟨b4, rfl, rfl⟩
      refine TL.val rfl rfl (Nat.le_of_ble_eq_true rfl) (Val.lenSl rfl rfl sl36) ?_
      refine TL.val rfl rfl (Nat.le_of_ble_eq_true rfl) (Val.move rfl) ?_
      refine TL.nil ?_
      refine AtX.then ?_
      refine TC.env (E' := [(2, _), (3, _), (4, _), (32, _), (33, _), (34, _)]) (Sub.cons rfl (Sub.cons rfl (Sub.cons rfl (Sub.cons rfl (Sub.cons rfl (Sub.cons rfl (Sub.nil _))))))) ?_
      refine TC.block ?_
      refine TC.loop (ι := (Nat × Sl)) (fun i => [(4, .slice (slA i.2) (putTo m i.1).length (slC i.2)), (32, .slice (some ⟨b4, 0, none⟩) 3 3), (33, .int .i64 3), (34, .int .i64 (i.1 : Nat))]) (fun i => slH i.2 5 (bv (putTo m i.1)) ++ ((b4, .cells #[.int .i64 m.seq, .int .i64 m.epoch, .int .i64 m.value] 2 (0, 0)) :: (b1, .cells #[.int .i64 m.kind, .int .i64 m.who, .int .i64 m.gen, .int .i64 m.seq, .int .i64 m.epoch, .int .i64 m.value, .int .i64 m.metric] 61 (0, 0)) :: M)) (fun i => i.1 ≤ 3 ∧ slOk i.2 1 (putTo m i.1).length (bv (putTo m i.1))) (fun i => 3 - i.1) (0, σ) ?_ (Sub.cons rfl (Sub.cons rfl (Sub.cons rfl (Sub.cons rfl (Sub.nil _))))) ro_dim2 ?_
      · exact ⟨by omega, by rw [putTo_len m (by omega)]; exact hok⟩
      rintro ⟨k, σ⟩ ⟨hk, hok⟩
      dsimp only at hk hok ⊢
      refine TC.seq ?_
      refine TC.region ?_
      refine TL.val rfl rfl (Nat.le_of_ble_eq_true rfl) (Val.lss rfl rfl) ?_
      refine TL.nil ?_
      refine AtX.then ?_
      refine TC.seq ?_
      first | refine TC.condP rfl (fun c2 => ?_) (fun c2 => ?_) | refine TC.condN rfl (fun c2 => ?_) (fun c2 => ?_) | refine TC.condB rfl (fun c2 => ?_) (fun c2 => ?_) | refine TC.cond rfl (fun c2 => ?_) (fun c2 => ?_)
      · skip
        refine TC.skip ?_
        refine AtX.then ?_
        refine TC.seq ?_
        refine TC.block ?_
        refine TC.seq ?_
        have hlt : k < 3 := by omega
        obtain ⟨x, hx⟩ : ∃ x, (tailB m)[k]? = some x := ⟨_, List.getElem?_eq_getElem (by show k < 3; omega)⟩
        have hpl := putTo_len m hk
        refine TC.region ?_
        refine TL.val rfl rfl (Nat.le_of_ble_eq_true rfl) (Val.indexAddr (i := k) (r := k) rfl rfl sl36 sz2 rfl (by omega) (by omega)) ?_
        refine TL.val rfl rfl (Nat.le_of_ble_eq_true rfl) (Val.loadRd (o := 0) (j := k) rfl ag2 (Rd.app _ (Rd.get (M := (b4, .cells #[.int .i64 m.seq, .int .i64 m.epoch, .int .i64 m.value] 2 (0, 0)) :: (b1, .cells #[.int .i64 m.kind, .int .i64 m.who, .int .i64 m.gen, .int .i64 m.seq, .int .i64 m.epoch, .int .i64 m.value, .int .i64 m.metric] 61 (0, 0)) :: M) (i := 0) (ys := (tailB m).map (Value.int .i64)) rfl rfl)) (by omega) (map_get hx)) ?_
        refine TL.val rfl rfl (Nat.le_of_ble_eq_true rfl) (Val.assign rfl) ?_
        refine TL.nil ?_
        refine AtX.then ?_
        refine TC.region ?_
        refine TL.val rfl rfl (Nat.le_of_ble_eq_true rfl) (Val.move rfl) ?_
        refine TL.val rfl rfl (Nat.le_of_ble_eq_true rfl) (Val.move rfl) ?_
        refine TL.val rfl rfl (Nat.le_of_ble_eq_true rfl) (Val.convI rfl iu2 in24 rfl) ?_
        refine TL.does (some 41) rfl rfl rfl (Does.callF go78 rfl (sipPut_fn _ _)) ?_
        rintro _ _ ⟨bQ, cQ, spQ, rfl, hcQ, rfl⟩
        refine TL.does (some 42) rfl rfl rfl (Does.appendS (xs := bv (putTo m k)) (ys := bv (put8 (IntKind.u64.wrap x))) σ ((b4, .cells #[.int .i64 m.seq, .int .i64 m.epoch, .int .i64 m.value] 2 (0, 0)) :: (b1, .cells #[.int .i64 m.kind, .int .i64 m.who, .int .i64 m.gen, .int .i64 m.seq, .int .i64 m.epoch, .int .i64 m.value, .int .i64 m.metric] 61 (0, 0)) :: M) (ro_tail ro_refl) rfl rfl sl37 sz5 by5 ze5 rfl hok (srcB us37 (rd_all (i := 0) rfl)) (by simp) (bv_one _) (by omega) (by omega)) ?_
        rintro _ _ ⟨σ1, rfl, hok1, rfl⟩
        refine TL.val rfl rfl (Nat.le_of_ble_eq_true rfl) (Val.assign rfl) ?_
        refine TL.nil ?_
        refine AtX.blk ?_
        refine AtX.then ?_
        refine TC.region ?_
        refine TL.val rfl rfl (Nat.le_of_ble_eq_true rfl) (Val.add rfl rfl (w_i64 (by omega) (by omega))) ?_
        refine TL.val rfl rfl (Nat.le_of_ble_eq_true rfl) (Val.move rfl) ?_
        refine TL.nil ?_
        refine AtX.round (i := (k, σ)) (k + 1, σ1) ?_ ?_ (Sub.cons (by rw [putTo_S hx, List.length_append, put8_len]; rfl) (Sub.cons rfl (Sub.cons rfl (Sub.cons rfl (Sub.nil _))))) (fun w h => by dsimp only; rw [putTo_S hx, bv_append]; exact h)
        · exact ⟨by omega, by dsimp only; rw [putTo_S hx, List.length_append, bv_append, put8_len]; exact hok1⟩
        · show 3 - (k + 1) < 3 - k; omega
      · skip
        refine TC.exit ?_
        refine AtX.seqX ?_
        refine AtX.seqX ?_
        refine AtX.hit ?_
        refine AtX.then ?_
        refine TC.env (E' := [(4, _)]) (Sub.cons rfl (Sub.nil _)) ?_
        refine TC.seq ?_
        have h3 : k = 3 := by omega
        subst h3
        rw [putTo_3] at hok ⊢
        rw [putM_len] at hok ⊢
        obtain ⟨b, c, sp, rfl, hc⟩ := hok.some (by omega)
        refine TC.region ?_
        refine TL.val rfl rfl (Nat.le_of_ble_eq_true rfl) (Val.move rfl) ?_
        refine TL.val rfl rfl (Nat.le_of_ble_eq_true rfl) (Val.assign rfl) ?_
        refine TL.val rfl rfl (Nat.le_of_ble_eq_true rfl) (Val.assign rfl) ?_
        refine TL.nil ?_
        refine AtX.then ?_
        refine TC.env (E' := [(2, _), (3, _)]) (Sub.cons rfl (Sub.cons rfl (Sub.nil _))) ?_
        refine TC.ret2 (fn := Try.f38) (fun _ _ h => h) rfl (RV.tmp rfl) (RV.tmp rfl) (M' := (b, row 5 (bv (putM m) ++ sp)) :: M) (fun w h => ro_del 1 rfl w (ro_del 1 rfl w h)) ?_
        exact ⟨b, c, sp, rfl, by simpa using hc, rfl⟩
    · skip
      refine TO.dz 15871 (some 23) rfl rfl rfl rfl (Does.callF go78 rfl (sipPut_fn _ _)) ?_
      rintro _ _ ⟨bP, cP, spP, rfl, hcP, rfl⟩
      refine roK ?_
      refine TA.tk 14 32255 rfl rfl rfl (Val.sliceTo (j := 4) rfl sl37 sz5 rfl rfl (by omega)) ?_
      refine TA.one 9 (by kernel_rfl) ?_
      refine TO.dz 32767 (some 19) rfl rfl rfl rfl (Does.buildSlice sl37 sz5 ze5 (by decide) (by decide) rfl rfl rfl) ?_
      rintro _ _ ⟨bH, rfl, rfl⟩
      refine roK ?_
      refine TA.one 15 (by kernel_rfl) ?_
      refine TO.dz 65535 (some 25) rfl rfl rfl rfl (Does.appendS (xs := bv [1, Go.X.b8 m.kind, Go.X.b8 m.who, Go.X.b8 m.metric]) (ys := bv ((put8 (IntKind.u64.wrap m.gen)).take 4)) (some (bH, 4, [])) ((b1, .cells #[.int .i64 m.kind, .int .i64 m.who, .int .i64 m.gen, .int .i64 m.seq, .int .i64 m.epoch, .int .i64 m.value, .int .i64 m.metric] 61 (0, 0)) :: M) (fun w h => ro_del 1 rfl w h) rfl rfl sl37 sz5 by5 ze5 rfl ⟨rfl, rfl⟩ (srcB us37 (rd_rowB (i := 1) rfl 4 (by simp))) (by simp) (bv_one _) (by omega) (by omega)) ?_
      rintro _ _ ⟨σ, rfl, hok, rfl⟩
      rw [← bv_append, show [1, Go.X.b8 m.kind, Go.X.b8 m.who, Go.X.b8 m.metric] ++ ((put8 (IntKind.u64.wrap m.gen)).take 4) = putTo m 0 from (putTo_0 m).symm] at hok ⊢
      refine roK ?_
      refine TA.tk 16 131071 rfl rfl rfl (Val.assign rfl) ?_
      refine TA.done (by kernel_rfl) ?_
      refine AtX.then ?_
      refine TC.env (E' := [(1, _), (2, _), (3, _), (4, _)]) (Sub.cons rfl (Sub.cons rfl (Sub.cons rfl (Sub.cons rfl (Sub.nil _))))) ?_
      refine TC.seq ?_
      refine TC.seq ?_
      refine TC.heap (M' := (b1, .cells #[.int .i64 m.kind, .int .i64 m.who, .int .i64 m.gen, .int .i64 m.seq, .int .i64 m.epoch, .int .i64 m.value, .int .i64 m.metric] 61 (0, 0)) :: (slH σ 5 (bv (putTo m 0)) ++ M)) ro_mid ?_
      refine TC.region ?_
      refine TL.val rfl rfl (Nat.le_of_ble_eq_true rfl) (Val.fieldAddr rfl fl61_3 sz2 rfl) ?_
      refine TL.val rfl rfl (Nat.le_of_ble_eq_true rfl) (Val.load 0 rfl ag2 rfl rfl) ?_
      refine TL.val rfl rfl (Nat.le_of_ble_eq_true rfl) (Val.fieldAddr rfl fl61_4 sz2 rfl) ?_
      refine TL.val rfl rfl (Nat.le_of_ble_eq_true rfl) (Val.load 0 rfl ag2 rfl rfl) ?_
      refine TL.val rfl rfl (Nat.le_of_ble_eq_true rfl) (Val.fieldAddr rfl fl61_5 sz2 rfl) ?_
      refine TL.val rfl rfl (Nat.le_of_ble_eq_true rfl) (Val.load 0 rfl ag2 rfl rfl) ?_
      refine TL.does (some 32) rfl rfl rfl (Does.buildSlice sl36 sz2 ze2 (by decide) (by decide) rfl rfl rfl) ?_
      rintro _ _ ⟨b4, rfl, rfl⟩
      refine TL.val rfl rfl (Nat.le_of_ble_eq_true rfl) (Val.lenSl rfl rfl sl36) ?_
      refine TL.val rfl rfl (Nat.le_of_ble_eq_true rfl) (Val.move rfl) ?_
      refine TL.nil ?_
      refine AtX.then ?_
      refine TC.env (E' := [(2, _), (3, _), (4, _), (32, _), (33, _), (34, _)]) (Sub.cons rfl (Sub.cons rfl (Sub.cons rfl (Sub.cons rfl (Sub.cons rfl (Sub.cons rfl (Sub.nil _))))))) ?_
      refine TC.block ?_
      refine TC.loop (ι := (Nat × Sl)) (fun i => [(4, .slice (slA i.2) (putTo m i.1).length (slC i.2)), (32, .slice (some ⟨b4, 0, none⟩) 3 3), (33, .int .i64 3), (34, .int .i64 (i.1 : Nat))]) (fun i => slH i.2 5 (bv (putTo m i.1)) ++ ((b4, .cells #[.int .i64 m.seq, .int .i64 m.epoch, .int .i64 m.value] 2 (0, 0)) :: (b1, .cells #[.int .i64 m.kind, .int .i64 m.who, .int .i64 m.gen, .int .i64 m.seq, .int .i64 m.epoch, .int .i64 m.value, .int .i64 m.metric] 61 (0, 0)) :: M)) (fun i => i.1 ≤ 3 ∧ slOk i.2 1 (putTo m i.1).length (bv (putTo m i.1))) (fun i => 3 - i.1) (0, σ) ?_ (Sub.cons rfl (Sub.cons rfl (Sub.cons rfl (Sub.cons rfl (Sub.nil _))))) ro_dim2 ?_
      · exact ⟨by omega, by rw [putTo_len m (by omega)]; exact hok⟩
      rintro ⟨k, σ⟩ ⟨hk, hok⟩
      dsimp only at hk hok ⊢
      refine TC.seq ?_
      refine TC.region ?_
      refine TL.val rfl rfl (Nat.le_of_ble_eq_true rfl) (Val.lss rfl rfl) ?_
      refine TL.nil ?_
      refine AtX.then ?_
      refine TC.seq ?_
      first | refine TC.condP rfl (fun c3 => ?_) (fun c3 => ?_) | refine TC.condN rfl (fun c3 => ?_) (fun c3 => ?_) | refine TC.condB rfl (fun c3 => ?_) (fun c3 => ?_) | refine TC.cond rfl (fun c3 => ?_) (fun c3 => ?_)
      · skip
        refine TC.skip ?_
        refine AtX.then ?_
        refine TC.seq ?_
        refine TC.block ?_
        refine TC.seq ?_
        have hlt : k < 3 := by omega
        obtain ⟨x, hx⟩ : ∃ x, (tailB m)[k]? = some x := ⟨_, List.getElem?_eq_getElem (by show k < 3; omega)⟩
        have hpl := putTo_len m hk
        refine TC.region ?_
        refine TL.val rfl rfl (Nat.le_of_ble_eq_true rfl) (Val.indexAddr (i := k) (r := k) rfl rfl sl36 sz2 rfl (by omega) (by omega)) ?_
        refine TL.val rfl rfl (Nat.le_of_ble_eq_true rfl) (Val.loadRd (o := 0) (j := k) rfl ag2 (Rd.app _ (Rd.get (M := (b4, .cells #[.int .i64 m.seq, .int .i64 m.epoch, .int .i64 m.value] 2 (0, 0)) :: (b1, .cells #[.int .i64 m.kind, .int .i64 m.who, .int .i64 m.gen, .int .i64 m.seq, .int .i64 m.epoch, .int .i64 m.value, .int .i64 m.metric] 61 (0, 0)) :: M) (i := 0) (ys := (tailB m).map (Value.int .i64)) rfl rfl)) (by omega) (map_get hx)) ?_
        refine TL.val rfl rfl (Nat.le_of_ble_eq_true rfl) (Val.assign rfl) ?_
        refine TL.nil ?_
        refine AtX.then ?_
        refine TC.region ?_
        refine TL.val rfl rfl (Nat.le_of_ble_eq_true rfl) (Val.move rfl) ?_
        refine TL.val rfl rfl (Nat.le_of_ble_eq_true rfl) (Val.move rfl) ?_
        refine TL.val rfl rfl (Nat.le_of_ble_eq_true rfl) (Val.convI rfl iu2 in24 rfl) ?_
        refine TL.does (some 41) rfl rfl rfl (Does.callF go78 rfl (sipPut_fn _ _)) ?_
        rintro _ _ ⟨bQ, cQ, spQ, rfl, hcQ, rfl⟩
        refine TL.does (some 42) rfl rfl rfl (Does.appendS (xs := bv (putTo m k)) (ys := bv (put8 (IntKind.u64.wrap x))) σ ((b4, .cells #[.int .i64 m.seq, .int .i64 m.epoch, .int .i64 m.value] 2 (0, 0)) :: (b1, .cells #[.int .i64 m.kind, .int .i64 m.who, .int .i64 m.gen, .int .i64 m.seq, .int .i64 m.epoch, .int .i64 m.value, .int .i64 m.metric] 61 (0, 0)) :: M) (ro_tail ro_refl) rfl rfl sl37 sz5 by5 ze5 rfl hok (srcB us37 (rd_all (i := 0) rfl)) (by simp) (bv_one _) (by omega) (by omega)) ?_
        rintro _ _ ⟨σ1, rfl, hok1, rfl⟩
        refine TL.val rfl rfl (Nat.le_of_ble_eq_true rfl) (Val.assign rfl) ?_
        refine TL.nil ?_
        refine AtX.blk ?_
        refine AtX.then ?_
        refine TC.region ?_
        refine TL.val rfl rfl (Nat.le_of_ble_eq_true rfl) (Val.add rfl rfl (w_i64 (by omega) (by omega))) ?_
        refine TL.val rfl rfl (Nat.le_of_ble_eq_true rfl) (Val.move rfl) ?_
        refine TL.nil ?_
        refine AtX.round (i := (k, σ)) (k + 1, σ1) ?_ ?_ (Sub.cons (by rw [putTo_S hx, List.length_append, put8_len]; rfl) (Sub.cons rfl (Sub.cons rfl (Sub.cons rfl (Sub.nil _))))) (fun w h => by dsimp only; rw [putTo_S hx, bv_append]; exact h)
        · exact ⟨by omega, by dsimp only; rw [putTo_S hx, List.length_append, bv_append, put8_len]; exact hok1⟩
        · show 3 - (k + 1) < 3 - k; omega
      · skip
        refine TC.exit ?_
        refine AtX.seqX ?_
        refine AtX.seqX ?_
        refine AtX.hit ?_
        refine AtX.then ?_
        refine TC.env (E' := [(4, _)]) (Sub.cons rfl (Sub.nil _)) ?_
        refine TC.seq ?_
        have h3 : k = 3 := by omega
        subst h3
        rw [putTo_3] at hok ⊢
        rw [putM_len] at hok ⊢
        obtain ⟨b, c, sp, rfl, hc⟩ := hok.some (by omega)
        refine TC.region ?_
        refine TL.val rfl rfl (Nat.le_of_ble_eq_true rfl) (Val.move rfl) ?_
        refine TL.val rfl rfl (Nat.le_of_ble_eq_true rfl) (Val.assign rfl) ?_
        refine TL.val rfl rfl (Nat.le_of_ble_eq_true rfl) (Val.assign rfl) ?_
        refine TL.nil ?_
        refine AtX.then ?_
        refine TC.env (E' := [(2, _), (3, _)]) (Sub.cons rfl (Sub.cons rfl (Sub.nil _))) ?_
        refine TC.ret2 (fn := Try.f38) (fun _ _ h => h) rfl (RV.tmp rfl) (RV.tmp rfl) (M' := (b, row 5 (bv (putM m) ++ sp)) :: M) (fun w h => ro_del 1 rfl w (ro_del 1 rfl w h)) ?_
        exact ⟨b, c, sp, rfl, by simpa using hc, rfl⟩

/-- quorumite/wire.Seal -/
theorem wSeal_fn (k : K2) (m : Ms) (M : Hp) (hm : mayM m = true) : FnC Try.prog 36 #[.agg #[.int .u64 k.a, .int .u64 k.b], .agg #[.int .i64 m.kind, .int .i64 m.who, .int .i64 m.gen, .int .i64 m.seq, .int .i64 m.epoch, .int .i64 m.value, .int .i64 m.metric]] M (fun v M' => ∃ b c sp, v = .tuple #[.slice (some ⟨b, 0, none⟩) 48 c, .int .i64 0] ∧ 48 + sp.length = c ∧ M' = (b, row 5 (bv (sealB k m) ++ sp)) :: M) := by
  refine FnC.intro Try.func36 rfl 22 rfl (by simp) (fun z => ?_)
  refine TC.env (E' := [(0, _), (1, _)]) (Sub.cons rfl (Sub.cons rfl (Sub.nil _))) ?_
  refine TC.seq ?_
  refine TC.region ?_
  refine TL.does (some 2) rfl rfl rfl (Does.box rfl rfl) ?_
  rintro _ _ ⟨b1, rfl, rfl⟩
  refine TL.does (some 3) rfl rfl rfl (Does.box rfl rfl) ?_
  rintro _ _ ⟨b2, rfl, rfl⟩
  refine TL.val rfl rfl (Nat.le_of_ble_eq_true rfl) (Val.assign rfl) ?_
  refine TL.val rfl rfl (Nat.le_of_ble_eq_true rfl) (Val.assign rfl) ?_
  refine TL.nil ?_
  refine AtX.then ?_
  refine TC.env (E' := [(2, _), (3, _), (4, _), (5, _)]) (Sub.cons rfl (Sub.cons rfl (Sub.cons rfl (Sub.cons rfl (Sub.nil _))))) ?_
  refine TC.seq ?_
  refine TC.region ?_
  refine TL.val rfl rfl (Nat.le_of_ble_eq_true rfl) (Val.loadAgg 0 rfl ag61 sz61 rfl rfl rfl) ?_
  refine TL.does (some 10) rfl rfl rfl (Does.callF go38 rfl (wPut_fn m _ hm)) ?_
  rintro _ _ ⟨bB, cB, spB, rfl, hcB, rfl⟩
  refine TL.val rfl rfl (Nat.le_of_ble_eq_true rfl) (Val.move rfl) ?_
  refine TL.val rfl rfl (Nat.le_of_ble_eq_true rfl) (Val.extract rfl rfl) ?_
  refine TL.val rfl rfl (Nat.le_of_ble_eq_true rfl) (Val.extract rfl rfl) ?_
  refine TL.val rfl rfl (Nat.le_of_ble_eq_true rfl) (Val.assign rfl) ?_
  refine TL.val rfl rfl (Nat.le_of_ble_eq_true rfl) (Val.assign rfl) ?_
  refine TL.nil ?_
  refine AtX.then ?_
  refine TC.env (E' := [(2, _), (4, _), (5, _), (6, _), (7, _)]) (Sub.cons rfl (Sub.cons rfl (Sub.cons rfl (Sub.cons rfl (Sub.cons rfl (Sub.nil _)))))) ?_
  refine TC.seq ?_
  refine TC.seq ?_
  refine TC.region ?_
  refine TL.val rfl rfl (Nat.le_of_ble_eq_true rfl) (Val.move rfl) ?_
  refine TL.val rfl rfl (Nat.le_of_ble_eq_true rfl) (Val.neqI rfl rfl) ?_
  refine TL.nil ?_
  refine AtX.then ?_
  refine TC.env (E' := [(2, _), (4, _), (5, _), (6, _), (7, _), (14, _)]) (Sub.cons rfl (Sub.cons rfl (Sub.cons rfl (Sub.cons rfl (Sub.cons rfl (Sub.cons rfl (Sub.nil _))))))) ?_
  first | refine TC.condP rfl (fun c1 => ?_) (fun c1 => ?_) | refine TC.condN rfl (fun c1 => ?_) (fun c1 => ?_) | refine TC.condB rfl (fun c1 => ?_) (fun c1 => ?_) | refine TC.cond rfl (fun c1 => ?_) (fun c1 => ?_)
  · skip
    exact absurd rfl c1
  · skip
    refine TC.env (E' := [(2, _), (4, _), (5, _), (6, _)]) (Sub.cons rfl (Sub.cons rfl (Sub.cons rfl (Sub.cons rfl (Sub.nil _))))) ?_
    refine TC.skip ?_
    refine AtX.then ?_
    refine TC.env (E' := [(2, _), (4, _), (5, _), (6, _)]) (Sub.cons rfl (Sub.cons rfl (Sub.cons rfl (Sub.cons rfl (Sub.nil _))))) ?_
    refine TC.seq ?_
    refine TC.region ?_
    refine TL.val rfl rfl (Nat.le_of_ble_eq_true rfl) (Val.move rfl) ?_
    refine TL.val rfl rfl (Nat.le_of_ble_eq_true rfl) (Val.loadAgg 2 rfl ag69 sz69 rfl rfl rfl) ?_
    refine TL.val rfl rfl (Nat.le_of_ble_eq_true rfl) (Val.move rfl) ?_
    refine TL.does (some 19) rfl rfl rfl (Does.callF go40 rfl (Tag_fn k (putM m) _ _ _ _ (rd_all (i := 0) rfl) (by simp) (by simp))) ?_
    rintro _ _ ⟨rfl, rfl⟩
    refine TL.does (some 20) rfl rfl rfl (Does.callF go75 rfl (Bytes_fn (tagOf k (putM m)) _)) ?_
    rintro _ _ ⟨bT, cT, spT, rfl, hcT, rfl⟩
    refine TL.does (some 21) rfl rfl rfl (Does.appendS (xs := bv (putM m)) (ys := bv (tagB (tagOf k (putM m)))) (some (bB, cB, spB)) _ (ro_tail ro_refl) rfl rfl sl37 sz5 by5 ze5 rfl ⟨by simp, by simpa using hcB⟩ (srcB us37 (rd_all (i := 0) rfl)) (by simp) (bv_one _) (by omega) (by omega)) ?_
    rintro _ _ ⟨σ, rfl, hok, rfl⟩
    rw [← bv_append] at hok ⊢
    obtain ⟨b, c, sp, rfl, hc⟩ := hok.some (by omega)
    refine TL.val rfl rfl (Nat.le_of_ble_eq_true rfl) (Val.assign rfl) ?_
    refine TL.val rfl rfl (Nat.le_of_ble_eq_true rfl) (Val.assign rfl) ?_
    refine TL.nil ?_
    refine AtX.then ?_
    refine TC.env (E' := [(4, _), (5, _)]) (Sub.cons rfl (Sub.cons rfl (Sub.nil _))) ?_
    refine TC.ret2 (fn := Try.f36) (fun _ _ h => h) rfl (RV.tmp rfl) (RV.tmp rfl) (M' := (b, row 5 (bv (sealB k m) ++ sp)) :: M) (fun w h => ro_del 1 rfl w (ro_del 1 rfl w h)) ?_
    exact ⟨b, c, sp, rfl, by simpa using hc, rfl⟩

end Go.Proofs.Ytphoapajlcaoeaa
/- walks -/
set_option linter.unusedVariables false
set_option linter.unusedSimpArgs false
set_option maxRecDepth 100000
set_option maxHeartbeats 4000000
namespace Go.Proofs.Ytphoapajlcaoeaa
open Go Go.X
abbrev sobj (b : Nat) (s w g q : Int) : Nat × Obj := (b, .cells #[.int .u64 s, .int .i64 w, .int .i64 g, .int .i64 q] 121 (0, 0))
/-- (*sync/atomic.Int64).Load -/
theorem aLoad_fn (b off i : Nat) (cs : Array Value) (T : TypeId) (fz : Nat × Nat) (n : Int) (M : Hp) (hi : M[i]? = some (b, .cells cs T fz)) (hv : nth cs.toList off = some (.int .i64 n)) : FnC Try.prog 85 #[.pointer (some ⟨b, off, none⟩)] M (fun v M' => v = .int .i64 n ∧ M = M') := by
  refine FnC.intro Try.func85 rfl 7 rfl (by simp) (fun z => ?_)
  refine TC.env (E' := [(0, _)]) (Sub.cons rfl (Sub.nil _)) ?_
  refine TC.seq ?_
  refine TC.region ?_
  refine TL.val rfl rfl (Nat.le_of_ble_eq_true rfl) (Val.assign rfl) ?_
  refine TL.nil ?_
  refine AtX.then ?_
  refine TC.seq ?_
  refine TC.region ?_
  refine TL.val rfl rfl (Nat.le_of_ble_eq_true rfl) (Val.move rfl) ?_
  refine TL.val rfl rfl (Nat.le_of_ble_eq_true rfl) (Val.nilCheck rfl) ?_
  refine TL.val rfl rfl (Nat.le_of_ble_eq_true rfl) (Val.fieldAddr rfl fl92_2 sz2 rfl) ?_
  refine TL.val rfl rfl (Nat.le_of_ble_eq_true rfl) (Val.atomL Try.func109 (by kernel_rfl) (by kernel_rfl) (by kernel_rfl) (by kernel_rfl) i rfl hi hv) ?_
  refine TL.val rfl rfl (Nat.le_of_ble_eq_true rfl) (Val.assign rfl) ?_
  refine TL.nil ?_
  refine AtX.then ?_
  refine TC.env (E' := [(2, _)]) (Sub.cons rfl (Sub.nil _)) ?_
  refine TC.ret1 (fn := Try.f85) (fun _ _ h => h) rfl (RV.tmp rfl) (fun _ h => h) ?_
  exact ⟨rfl, rfl⟩

/-- (*sync/atomic.Int64).Store -/
theorem aStore_fn (b off i : Nat) (cs : Array Value) (T : TypeId) (n : Int) (M : Hp) (hi : M[i]? = some (b, .cells cs T (0, 0))) (ho : off < cs.size) : FnC Try.prog 69 #[.pointer (some ⟨b, off, none⟩), .int .i64 n] M (fun v M' => v = .tuple #[] ∧ M' = M.set i (b, .cells (cs.setIfInBounds off (.int .i64 n)) T (0, 0))) := by
  refine FnC.intro Try.func69 rfl 9 rfl (by simp) (fun z => ?_)
  refine TC.env (E' := [(0, _), (1, _)]) (Sub.cons rfl (Sub.cons rfl (Sub.nil _))) ?_
  refine TC.region ?_
  refine TL.val rfl rfl (Nat.le_of_ble_eq_true rfl) (Val.move rfl) ?_
  refine TL.val rfl rfl (Nat.le_of_ble_eq_true rfl) (Val.nilCheck rfl) ?_
  refine TL.val rfl rfl (Nat.le_of_ble_eq_true rfl) (Val.fieldAddr rfl fl92_2 sz2 rfl) ?_
  refine TL.val rfl rfl (Nat.le_of_ble_eq_true rfl) (Val.move rfl) ?_
  refine TL.does (some 8) rfl rfl rfl (Does.atomS Try.func100 (by kernel_rfl) (by kernel_rfl) (by kernel_rfl) (by kernel_rfl) i rfl rfl hi ho) ?_
  rintro _ _ ⟨rfl, rfl⟩
  refine TL.nil ?_
  refine AtX.end0 rfl (fun _ h => h) ?_
  exact ⟨rfl, rfl⟩

/-- (*sync/atomic.Int64).Add -/
theorem aAdd_fn (b off i : Nat) (cs : Array Value) (T : TypeId) (n d r : Int) (M : Hp) (hi : M[i]? = some (b, .cells cs T (0, 0))) (hv : nth cs.toList off = some (.int .i64 n)) (hr : IntKind.i64.wrap (n + d) = r) : FnC Try.prog 52 #[.pointer (some ⟨b, off, none⟩), .int .i64 d] M (fun v M' => v = .int .i64 r ∧ M' = M.set i (b, .cells (cs.setIfInBounds off (.int .i64 r)) T (0, 0))) := by
  refine FnC.intro Try.func52 rfl 10 rfl (by simp) (fun z => ?_)
  refine TC.env (E' := [(0, _), (1, _)]) (Sub.cons rfl (Sub.cons rfl (Sub.nil _))) ?_
  refine TC.seq ?_
  refine TC.region ?_
  refine TL.val rfl rfl (Nat.le_of_ble_eq_true rfl) (Val.assign rfl) ?_
  refine TL.nil ?_
  refine AtX.then ?_
  refine TC.seq ?_
  refine TC.region ?_
  refine TL.val rfl rfl (Nat.le_of_ble_eq_true rfl) (Val.move rfl) ?_
  refine TL.val rfl rfl (Nat.le_of_ble_eq_true rfl) (Val.nilCheck rfl) ?_
  refine TL.val rfl rfl (Nat.le_of_ble_eq_true rfl) (Val.fieldAddr rfl fl92_2 sz2 rfl) ?_
  refine TL.val rfl rfl (Nat.le_of_ble_eq_true rfl) (Val.move rfl) ?_
  refine TL.does (some 9) rfl rfl rfl (Does.atomA Try.func87 (by kernel_rfl) (by kernel_rfl) (by kernel_rfl) (by kernel_rfl) i rfl rfl hi hv hr) ?_
  rintro _ _ ⟨rfl, rfl⟩
  refine TL.val rfl rfl (Nat.le_of_ble_eq_true rfl) (Val.assign rfl) ?_
  refine TL.nil ?_
  refine AtX.then ?_
  refine TC.env (E' := [(4, _)]) (Sub.cons rfl (Sub.nil _)) ?_
  refine TC.ret1 (fn := Try.f52) (fun _ _ h => h) rfl (RV.tmp rfl) (fun _ h => h) ?_
  exact ⟨rfl, rfl⟩

/-- quorumite/seal.New -/
theorem sNew_fn (s w : Int) (M : Hp) (hw : 0 ≤ w ∧ w ≤ 15) : FnC Try.prog 30 #[.int .u64 s, .int .i64 w] M (fun v M' => ∃ b, v = .pointer (some ⟨b, 0, none⟩) ∧ M' = sobj b s w 0 0 :: M) := by
  refine FnC.intro Try.func30 rfl 15 rfl (by simp) (fun z => ?_)
  refine TC.env (E' := [(0, _), (1, _)]) (Sub.cons rfl (Sub.cons rfl (Sub.nil _))) ?_
  refine TC.seq ?_
  refine TC.region ?_
  refine TL.val rfl rfl (Nat.le_of_ble_eq_true rfl) (Val.assign rfl) ?_
  refine TL.nil ?_
  refine AtX.then ?_
  refine TC.seq ?_
  refine TC.seq ?_
  refine TC.region ?_
  refine TL.val rfl rfl (Nat.le_of_ble_eq_true rfl) (Val.move rfl) ?_
  refine TL.val rfl rfl (Nat.le_of_ble_eq_true rfl) (Val.lss rfl rfl) ?_
  refine TL.val rfl rfl (Nat.le_of_ble_eq_true rfl) (Val.move rfl) ?_
  refine TL.gen (fun g1 hg1 => ?_)
  refine TL.gval rfl rfl (Nat.le_of_ble_eq_true rfl) rfl (Nat.le_of_ble_eq_true rfl) rfl (fun hg => by subst hg; exact (Val.move rfl)) ?_
  refine TL.gval rfl rfl (Nat.le_of_ble_eq_true rfl) rfl (Nat.le_of_ble_eq_true rfl) rfl (fun hg => by subst hg; exact (Val.geq rfl rfl)) ?_
  refine TL.val rfl rfl (Nat.le_of_ble_eq_true rfl) (Val.pickOr rfl rfl rfl) ?_
  refine TL.nil ?_
  refine AtX.then ?_
  refine TC.env (E' := [(0, _), (1, _), (4, _), (10, _)]) (Sub.cons rfl (Sub.cons rfl (Sub.cons rfl (Sub.cons rfl (Sub.nil _))))) ?_
  first | refine TC.condP rfl (fun c1 => ?_) (fun c1 => ?_) | refine TC.condN rfl (fun c1 => ?_) (fun c1 => ?_) | refine TC.condB rfl (fun c1 => ?_) (fun c1 => ?_) | refine TC.cond rfl (fun c1 => ?_) (fun c1 => ?_)
  · skip
    (exfalso; grind)
  · skip
    refine TC.env (E' := [(0, _), (1, _), (4, _)]) (Sub.cons rfl (Sub.cons rfl (Sub.cons rfl (Sub.nil _)))) ?_
    refine TC.skip ?_
    refine AtX.then ?_
    refine TC.env (E' := [(0, _), (1, _), (4, _)]) (Sub.cons rfl (Sub.cons rfl (Sub.cons rfl (Sub.nil _)))) ?_
    refine TC.seq ?_
    refine TC.region ?_
    refine TL.val rfl rfl (Nat.le_of_ble_eq_true rfl) (Val.move rfl) ?_
    refine TL.val rfl rfl (Nat.le_of_ble_eq_true rfl) (Val.move rfl) ?_
    refine TL.val rfl rfl (Nat.le_of_ble_eq_true rfl) (Val.buildS pl121 ze121 rfl rfl) ?_
    refine TL.does (some 14) rfl rfl rfl (Does.box rfl rfl) ?_
    rintro _ _ ⟨b2, rfl, rfl⟩
    refine TL.val rfl rfl (Nat.le_of_ble_eq_true rfl) (Val.assign rfl) ?_
    refine TL.nil ?_
    refine AtX.then ?_
    refine TC.env (E' := [(4, _)]) (Sub.cons rfl (Sub.nil _)) ?_
    refine TC.ret1 (fn := Try.f30) (fun _ _ h => h) rfl (RV.tmp rfl) (fun _ h => h) ?_
    exact ⟨_, rfl, rfl⟩

/-- (*quorumite/seal.Sealer).Gen -/
theorem Gen_fn (b i : Nat) (s w g q : Int) (M : Hp) (hi : M[i]? = some (sobj b s w g q)) : FnC Try.prog 48 #[.pointer (some ⟨b, 0, none⟩)] M (fun v M' => v = .int .i64 g ∧ M = M') := by
  refine FnC.intro Try.func48 rfl 9 rfl (by simp) (fun z => ?_)
  refine TC.env (E' := [(0, _)]) (Sub.cons rfl (Sub.nil _)) ?_
  refine TC.seq ?_
  refine TC.region ?_
  refine TL.val rfl rfl (Nat.le_of_ble_eq_true rfl) (Val.assign rfl) ?_
  refine TL.nil ?_
  refine AtX.then ?_
  refine TC.seq ?_
  refine TC.seq ?_
  refine TC.region ?_
  refine TL.val rfl rfl (Nat.le_of_ble_eq_true rfl) (Val.move rfl) ?_
  refine TL.val rfl rfl (Nat.le_of_ble_eq_true rfl) (Val.eqlNil rfl rfl pt57) ?_
  refine TL.nil ?_
  refine AtX.then ?_
  refine TC.env (E' := [(0, _), (2, _), (4, _)]) (Sub.cons rfl (Sub.cons rfl (Sub.cons rfl (Sub.nil _)))) ?_
  first | refine TC.condP rfl (fun c1 => ?_) (fun c1 => ?_) | refine TC.condN rfl (fun c1 => ?_) (fun c1 => ?_) | refine TC.condB rfl (fun c1 => ?_) (fun c1 => ?_) | refine TC.cond rfl (fun c1 => ?_) (fun c1 => ?_)
  · skip
    cases c1
  · skip
    refine TC.env (E' := [(0, _), (2, _)]) (Sub.cons rfl (Sub.cons rfl (Sub.nil _))) ?_
    refine TC.skip ?_
    refine AtX.then ?_
    refine TC.env (E' := [(0, _), (2, _)]) (Sub.cons rfl (Sub.cons rfl (Sub.nil _))) ?_
    refine TC.seq ?_
    refine TC.region ?_
    refine TL.val rfl rfl (Nat.le_of_ble_eq_true rfl) (Val.move rfl) ?_
    refine TL.val rfl rfl (Nat.le_of_ble_eq_true rfl) (Val.nilCheck rfl) ?_
    refine TL.val rfl rfl (Nat.le_of_ble_eq_true rfl) (Val.fieldAddr rfl fl121_2 sz3 rfl) ?_
    refine TL.val rfl rfl (Nat.le_of_ble_eq_true rfl) (Val.load i rfl ag3 hi rfl) ?_
    refine TL.val rfl rfl (Nat.le_of_ble_eq_true rfl) (Val.assign rfl) ?_
    refine TL.nil ?_
    refine AtX.then ?_
    refine TC.env (E' := [(2, _)]) (Sub.cons rfl (Sub.nil _)) ?_
    refine TC.ret1 (fn := Try.f48) (fun _ _ h => h) rfl (RV.tmp rfl) (fun _ h => h) ?_
    exact ⟨rfl, rfl⟩

/-- (*quorumite/seal.Sealer).Seq -/
theorem Seq_fn (b i : Nat) (s w g q : Int) (M : Hp) (hi : M[i]? = some (sobj b s w g q)) : FnC Try.prog 49 #[.pointer (some ⟨b, 0, none⟩)] M (fun v M' => v = .int .i64 q ∧ M = M') := by
  refine FnC.intro Try.func49 rfl 9 rfl (by simp) (fun z => ?_)
  refine TC.env (E' := [(0, _)]) (Sub.cons rfl (Sub.nil _)) ?_
  refine TC.seq ?_
  refine TC.region ?_
  refine TL.val rfl rfl (Nat.le_of_ble_eq_true rfl) (Val.assign rfl) ?_
  refine TL.nil ?_
  refine AtX.then ?_
  refine TC.seq ?_
  refine TC.seq ?_
  refine TC.region ?_
  refine TL.val rfl rfl (Nat.le_of_ble_eq_true rfl) (Val.move rfl) ?_
  refine TL.val rfl rfl (Nat.le_of_ble_eq_true rfl) (Val.eqlNil rfl rfl pt57) ?_
  refine TL.nil ?_
  refine AtX.then ?_
  refine TC.env (E' := [(0, _), (2, _), (4, _)]) (Sub.cons rfl (Sub.cons rfl (Sub.cons rfl (Sub.nil _)))) ?_
  first | refine TC.condP rfl (fun c1 => ?_) (fun c1 => ?_) | refine TC.condN rfl (fun c1 => ?_) (fun c1 => ?_) | refine TC.condB rfl (fun c1 => ?_) (fun c1 => ?_) | refine TC.cond rfl (fun c1 => ?_) (fun c1 => ?_)
  · skip
    cases c1
  · skip
    refine TC.env (E' := [(0, _), (2, _)]) (Sub.cons rfl (Sub.cons rfl (Sub.nil _))) ?_
    refine TC.skip ?_
    refine AtX.then ?_
    refine TC.env (E' := [(0, _), (2, _)]) (Sub.cons rfl (Sub.cons rfl (Sub.nil _))) ?_
    refine TC.seq ?_
    refine TC.region ?_
    refine TL.val rfl rfl (Nat.le_of_ble_eq_true rfl) (Val.move rfl) ?_
    refine TL.val rfl rfl (Nat.le_of_ble_eq_true rfl) (Val.nilCheck rfl) ?_
    refine TL.val rfl rfl (Nat.le_of_ble_eq_true rfl) (Val.fieldAddr rfl fl121_3 sz92 rfl) ?_
    refine TL.does (some 8) rfl rfl rfl (Does.callF go85 rfl (aLoad_fn b 3 i _ _ _ q _ hi rfl)) ?_
    rintro _ _ ⟨rfl, rfl⟩
    refine TL.val rfl rfl (Nat.le_of_ble_eq_true rfl) (Val.assign rfl) ?_
    refine TL.nil ?_
    refine AtX.then ?_
    refine TC.env (E' := [(2, _)]) (Sub.cons rfl (Sub.nil _)) ?_
    refine TC.ret1 (fn := Try.f49) (fun _ _ h => h) rfl (RV.tmp rfl) (fun _ h => h) ?_
    exact ⟨rfl, rfl⟩

/-- (*quorumite/seal.Sealer).seal -/
theorem sSeal_fn (b i : Nat) (s w g q : Int) (m : Ms) (M : Hp) (hi : M[i]? = some (sobj b s w g q)) (hm : mayM ⟨m.kind, w, m.gen, q + 1, m.epoch, m.value, m.metric⟩ = true) : FnC Try.prog 62 #[.pointer (some ⟨b, 0, none⟩), .agg #[.int .i64 m.kind, .int .i64 m.who, .int .i64 m.gen, .int .i64 m.seq, .int .i64 m.epoch, .int .i64 m.value, .int .i64 m.metric]] M (fun v M' => ∃ bE c sp, v = .tuple #[.slice (some ⟨bE, 0, none⟩) 48 c, .int .i64 0] ∧ 48 + sp.length = c ∧ M' = (bE, row 5 (bv (sealB (macKey s w g) ⟨m.kind, w, m.gen, q + 1, m.epoch, m.value, m.metric⟩) ++ sp)) :: M.set i (sobj b s w g (q + 1))) := by
  obtain ⟨hk, hw, hg, hs, he, hme, hv⟩ := mayM_iff.1 hm
  simp only at hk hw hg hs he hme hv
  refine FnC.intro Try.func62 rfl 47 rfl (by simp) (fun z => ?_)
  refine TC.env (E' := [(0, _), (1, _)]) (Sub.cons rfl (Sub.cons rfl (Sub.nil _))) ?_
  refine TC.seq ?_
  refine TC.region ?_
  refine TL.does (some 3) rfl rfl rfl (Does.box rfl rfl) ?_
  rintro _ _ ⟨b1, rfl, rfl⟩
  refine TL.val rfl rfl (Nat.le_of_ble_eq_true rfl) (Val.assign rfl) ?_
  refine TL.val rfl rfl (Nat.le_of_ble_eq_true rfl) (Val.assign rfl) ?_
  refine TL.nil ?_
  refine AtX.then ?_
  refine TC.env (E' := [(0, _), (3, _), (4, _), (5, _)]) (Sub.cons rfl (Sub.cons rfl (Sub.cons rfl (Sub.cons rfl (Sub.nil _))))) ?_
  refine TC.seq ?_
  refine TC.seq ?_
  refine TC.region ?_
  refine TL.val rfl rfl (Nat.le_of_ble_eq_true rfl) (Val.move rfl) ?_
  refine TL.val rfl rfl (Nat.le_of_ble_eq_true rfl) (Val.eqlNil rfl rfl pt57) ?_
  refine TL.nil ?_
  refine AtX.then ?_
  refine TC.env (E' := [(0, _), (3, _), (4, _), (5, _), (9, _)]) (Sub.cons rfl (Sub.cons rfl (Sub.cons rfl (Sub.cons rfl (Sub.cons rfl (Sub.nil _)))))) ?_
  first | refine TC.condP rfl (fun c1 => ?_) (fun c1 => ?_) | refine TC.condN rfl (fun c1 => ?_) (fun c1 => ?_) | refine TC.condB rfl (fun c1 => ?_) (fun c1 => ?_) | refine TC.cond rfl (fun c1 => ?_) (fun c1 => ?_)
  · skip
    cases c1
  · skip
    refine TC.env (E' := [(0, _), (3, _), (4, _), (5, _)]) (Sub.cons rfl (Sub.cons rfl (Sub.cons rfl (Sub.cons rfl (Sub.nil _))))) ?_
    refine TC.skip ?_
    refine AtX.then ?_
    refine TC.env (E' := [(0, _), (3, _), (4, _), (5, _)]) (Sub.cons rfl (Sub.cons rfl (Sub.cons rfl (Sub.cons rfl (Sub.nil _))))) ?_
    refine TC.seq ?_
    refine TC.drawL M mixed 13 ?_
    refine TA.tk 0 1 rfl rfl rfl (Val.move rfl) ?_
    refine TA.tk 1 3 rfl rfl rfl (Val.nilCheck rfl) ?_
    refine TA.tk 2 7 rfl rfl rfl (Val.fieldAddr rfl fl121_1 sz3 rfl) ?_
    refine TA.tk 3 15 rfl rfl rfl (Val.load i rfl ag3 hi rfl) ?_
    refine TA.tk 4 31 rfl rfl rfl (Val.move rfl) ?_
    refine TA.tk 5 63 rfl rfl rfl (Val.nilCheck rfl) ?_
    refine TA.tk 6 127 rfl rfl rfl (Val.fieldAddr rfl fl121_3 sz92 rfl) ?_
    refine TA.tk 9 639 rfl rfl rfl (Val.fieldAddr rfl fl61_1 sz3 rfl) ?_
    refine TA.one 7 (by kernel_rfl) ?_
    refine TO.dz 767 (some 17) rfl rfl rfl rfl (Does.callF go85 rfl (aLoad_fn b 3 (i + 1) _ _ _ q _ hi rfl)) ?_
    rintro _ _ ⟨rfl, rfl⟩
    refine roK ?_
    refine TA.tk 8 1023 rfl rfl rfl (Val.add rfl rfl (r := q + 1) (w_i64 (by omega) (by omega))) ?_
    refine TA.one 10 (by kernel_rfl) ?_
    refine TO.dz 2047 none rfl rfl rfl rfl (Does.store (i := 0) rfl rfl rfl sz3 rfl rfl (by first | exact Nat.le_of_ble_eq_true rfl | decide | omega) rfl rfl) ?_
    rintro _ _ ⟨rfl, rfl⟩
    refine roK ?_
    refine TA.tk 11 4095 rfl rfl rfl (Val.fieldAddr rfl fl61_3 sz2 rfl) ?_
    refine TA.one 12 (by kernel_rfl) ?_
    refine TO.dz 8191 none rfl rfl rfl rfl (Does.store (i := 0) rfl rfl rfl sz2 rfl rfl (by first | exact Nat.le_of_ble_eq_true rfl | decide | omega) rfl rfl) ?_
    rintro _ _ ⟨rfl, rfl⟩
    refine roK ?_
    refine TA.done (by kernel_rfl) ?_
    refine AtX.then ?_
    refine TC.env (E' := [(0, _), (3, _), (4, _), (5, _)]) (Sub.cons rfl (Sub.cons rfl (Sub.cons rfl (Sub.cons rfl (Sub.nil _))))) ?_
    refine TC.seq ?_
    refine TC.drawLM mixed 20 ?_
    refine TA.tk 0 1 rfl rfl rfl (Val.move rfl) ?_
    refine TA.tk 1 3 rfl rfl rfl (Val.nilCheck rfl) ?_
    refine TA.tk 2 7 rfl rfl rfl (Val.fieldAddr rfl fl121_0 sz24 rfl) ?_
    refine TA.tk 3 15 rfl rfl rfl (Val.load (i + 1) rfl ag24 hi rfl) ?_
    refine TA.tk 4 31 rfl rfl rfl (Val.move rfl) ?_
    refine TA.tk 5 63 rfl rfl rfl (Val.nilCheck rfl) ?_
    refine TA.tk 6 127 rfl rfl rfl (Val.fieldAddr rfl fl121_1 sz3 rfl) ?_
    refine TA.tk 7 255 rfl rfl rfl (Val.load (i + 1) rfl ag3 hi rfl) ?_
    refine TA.tk 8 511 rfl rfl rfl (Val.move rfl) ?_
    refine TA.tk 9 1023 rfl rfl rfl (Val.nilCheck rfl) ?_
    refine TA.tk 10 2047 rfl rfl rfl (Val.fieldAddr rfl fl121_2 sz3 rfl) ?_
    refine TA.tk 11 4095 rfl rfl rfl (Val.load (i + 1) rfl ag3 hi rfl) ?_
    refine TA.tk 13 12287 rfl rfl rfl (Val.loadAgg 0 rfl ag61 sz61 rfl rfl rfl) ?_
    refine TA.one 12 (by kernel_rfl) ?_
    refine TO.dz 16383 (some 34) rfl rfl rfl rfl (Does.callF go37 rfl (Of_fn s w g _)) ?_
    rintro _ _ ⟨rfl, rfl⟩
    refine roK ?_
    refine TA.one 14 (by kernel_rfl) ?_
    refine TO.dz 32767 (some 36) rfl rfl rfl rfl (Does.callF go36 rfl (wSeal_fn (macKey s w g) ⟨m.kind, w, m.gen, q + 1, m.epoch, m.value, m.metric⟩ _ hm)) ?_
    rintro _ _ ⟨bE, cE, spE, rfl, hcE, rfl⟩
    refine roK ?_
    refine TA.tk 15 65535 rfl rfl rfl (Val.move rfl) ?_
    refine TA.tk 16 131071 rfl rfl rfl (Val.extract rfl rfl) ?_
    refine TA.tk 17 262143 rfl rfl rfl (Val.extract rfl rfl) ?_
    refine TA.tk 18 524287 rfl rfl rfl (Val.assign rfl) ?_
    refine TA.tk 19 1048575 rfl rfl rfl (Val.assign rfl) ?_
    refine TA.done (by kernel_rfl) ?_
    refine AtX.then ?_
    refine TC.env (E' := [(0, _), (4, _), (5, _), (6, _), (7, _)]) (Sub.cons rfl (Sub.cons rfl (Sub.cons rfl (Sub.cons rfl (Sub.cons rfl (Sub.nil _)))))) ?_
    refine TC.seq ?_
    refine TC.seq ?_
    refine TC.region ?_
    refine TL.val rfl rfl (Nat.le_of_ble_eq_true rfl) (Val.move rfl) ?_
    refine TL.val rfl rfl (Nat.le_of_ble_eq_true rfl) (Val.eqlI rfl rfl) ?_
    refine TL.nil ?_
    refine AtX.then ?_
    refine TC.env (E' := [(0, _), (4, _), (5, _), (6, _), (7, _), (40, _)]) (Sub.cons rfl (Sub.cons rfl (Sub.cons rfl (Sub.cons rfl (Sub.cons rfl (Sub.cons rfl (Sub.nil _))))))) ?_
    first | refine TC.condP rfl (fun c2 => ?_) (fun c2 => ?_) | refine TC.condN rfl (fun c2 => ?_) (fun c2 => ?_) | refine TC.condB rfl (fun c2 => ?_) (fun c2 => ?_) | refine TC.cond rfl (fun c2 => ?_) (fun c2 => ?_)
    · skip
      refine TC.env (E' := [(0, _), (4, _), (5, _), (6, _), (7, _)]) (Sub.cons rfl (Sub.cons rfl (Sub.cons rfl (Sub.cons rfl (Sub.cons rfl (Sub.nil _)))))) ?_
      refine TC.region ?_
      refine TL.val rfl rfl (Nat.le_of_ble_eq_true rfl) (Val.move rfl) ?_
      refine TL.val rfl rfl (Nat.le_of_ble_eq_true rfl) (Val.nilCheck rfl) ?_
      refine TL.val rfl rfl (Nat.le_of_ble_eq_true rfl) (Val.fieldAddr rfl fl121_3 sz92 rfl) ?_
      refine TL.does (some 44) rfl rfl rfl (Does.callF go52 rfl (aAdd_fn b 3 (i + 2) _ _ q 1 (q + 1) _ hi rfl (w_i64 (by omega) (by omega)))) ?_
      rintro _ _ ⟨rfl, rfl⟩
      refine TL.nil ?_
      refine AtX.then ?_
      refine TC.env (E' := [(4, _), (5, _), (6, _), (7, _)]) (Sub.cons rfl (Sub.cons rfl (Sub.cons rfl (Sub.cons rfl (Sub.nil _))))) ?_
      refine TC.seq ?_
      refine TC.region ?_
      refine TL.val rfl rfl (Nat.le_of_ble_eq_true rfl) (Val.move rfl) ?_
      refine TL.val rfl rfl (Nat.le_of_ble_eq_true rfl) (Val.move rfl) ?_
      refine TL.val rfl rfl (Nat.le_of_ble_eq_true rfl) (Val.assign rfl) ?_
      refine TL.val rfl rfl (Nat.le_of_ble_eq_true rfl) (Val.assign rfl) ?_
      refine TL.nil ?_
      refine AtX.then ?_
      refine TC.env (E' := [(4, _), (5, _)]) (Sub.cons rfl (Sub.cons rfl (Sub.nil _))) ?_
      refine TC.ret2 (fn := Try.f62) (fun _ _ h => h) rfl (RV.tmp rfl) (RV.tmp rfl) (M' := (bE, row 5 (bv (sealB (macKey s w g) ⟨m.kind, w, m.gen, q + 1, m.epoch, m.value, m.metric⟩) ++ spE)) :: M.set i (sobj b s w g (q + 1))) (fun w h => ro_del 1 rfl w h) ?_
      exact ⟨bE, _, spE, rfl, hcE, rfl⟩
    · skip
      exact absurd rfl c2

/-- (*quorumite/seal.Sealer).Sample -/
theorem sSample_fn (b i : Nat) (s w g q : Int) (me e v : Int) (M : Hp) (hi : M[i]? = some (sobj b s w g q)) (hm : mayM ⟨1, w, g, q + 1, e, v, me⟩ = true) : FnC Try.prog 31 #[.pointer (some ⟨b, 0, none⟩), .int .i64 me, .int .i64 e, .int .i64 v] M (fun u M' => ∃ bE c sp, u = .tuple #[.slice (some ⟨bE, 0, none⟩) 48 c, .int .i64 0] ∧ 48 + sp.length = c ∧ M' = (bE, row 5 (bv (sealB (macKey s w g) ⟨1, w, g, q + 1, e, v, me⟩) ++ sp)) :: M.set i (sobj b s w g (q + 1))) := by
  obtain ⟨hk, hw, hg, hs, he, hme, hv⟩ := mayM_iff.1 hm
  simp only at hk hw hg hs he hme hv
  refine FnC.intro Try.func31 rfl 21 rfl (by simp) (fun z => ?_)
  refine TC.env (E' := [(0, _), (1, _), (2, _), (3, _)]) (Sub.cons rfl (Sub.cons rfl (Sub.cons rfl (Sub.cons rfl (Sub.nil _))))) ?_
  refine TC.seq ?_
  refine TC.region ?_
  refine TL.val rfl rfl (Nat.le_of_ble_eq_true rfl) (Val.assign rfl) ?_
  refine TL.val rfl rfl (Nat.le_of_ble_eq_true rfl) (Val.assign rfl) ?_
  refine TL.nil ?_
  refine AtX.then ?_
  refine TC.seq ?_
  refine TC.region ?_
  refine TL.val rfl rfl (Nat.le_of_ble_eq_true rfl) (Val.move rfl) ?_
  refine TL.val rfl rfl (Nat.le_of_ble_eq_true rfl) (Val.move rfl) ?_
  refine TL.does (some 12) rfl rfl rfl (Does.callF go48 rfl (Gen_fn b i s w g q _ hi)) ?_
  rintro _ _ ⟨rfl, rfl⟩
  refine TL.val rfl rfl (Nat.le_of_ble_eq_true rfl) (Val.max rfl rfl (r := g) (by split <;> omega)) ?_
  refine TL.val rfl rfl (Nat.le_of_ble_eq_true rfl) (Val.move rfl) ?_
  refine TL.val rfl rfl (Nat.le_of_ble_eq_true rfl) (Val.move rfl) ?_
  refine TL.val rfl rfl (Nat.le_of_ble_eq_true rfl) (Val.move rfl) ?_
  refine TL.val rfl rfl (Nat.le_of_ble_eq_true rfl) (Val.buildS pl61 ze61 rfl rfl) ?_
  refine TL.does (some 18) rfl rfl rfl (Does.callF go62 rfl (sSeal_fn b i s w g q ⟨1, 0, g, 0, e, v, me⟩ _ hi hm)) ?_
  rintro _ _ ⟨bE, cE, spE, rfl, hcE, rfl⟩
  refine TL.val rfl rfl (Nat.le_of_ble_eq_true rfl) (Val.extract rfl rfl) ?_
  refine TL.val rfl rfl (Nat.le_of_ble_eq_true rfl) (Val.extract rfl rfl) ?_
  refine TL.val rfl rfl (Nat.le_of_ble_eq_true rfl) (Val.assign rfl) ?_
  refine TL.val rfl rfl (Nat.le_of_ble_eq_true rfl) (Val.assign rfl) ?_
  refine TL.nil ?_
  refine AtX.then ?_
  refine TC.env (E' := [(8, _), (9, _)]) (Sub.cons rfl (Sub.cons rfl (Sub.nil _))) ?_
  refine TC.ret2 (fn := Try.f31) (fun _ _ h => h) rfl (RV.tmp rfl) (RV.tmp rfl) (fun _ h => h) ?_
  exact ⟨bE, _, spE, rfl, hcE, rfl⟩

/-- (*quorumite/seal.Sealer).Rotate -/
theorem sRotate_fn (b i : Nat) (s w g q : Int) (e : Int) (M : Hp) (hi : M[i]? = some (sobj b s w g q)) (hm : mayM ⟨2, w, g + 1, q + 1, e, 0, 0⟩ = true) : FnC Try.prog 34 #[.pointer (some ⟨b, 0, none⟩), .int .i64 e] M (fun v M' => ∃ bE c sp, v = .tuple #[.slice (some ⟨bE, 0, none⟩) 48 c, .int .i64 0] ∧ 48 + sp.length = c ∧ M' = (bE, row 5 (bv (sealB (macKey s w g) ⟨2, w, g + 1, q + 1, e, 0, 0⟩) ++ sp)) :: M.set i (sobj b s w (g + 1) 0)) := by
  obtain ⟨hk, hw, hg, hs, he, hme, hv⟩ := mayM_iff.1 hm
  simp only at hk hw hg hs he hme hv
  have hlt : i < M.length := (List.getElem?_eq_some_iff.1 hi).1
  refine FnC.intro Try.func34 rfl 33 rfl (by simp) (fun z => ?_)
  refine TC.env (E' := [(0, _), (1, _)]) (Sub.cons rfl (Sub.cons rfl (Sub.nil _))) ?_
  refine TC.seq ?_
  refine TC.region ?_
  refine TL.val rfl rfl (Nat.le_of_ble_eq_true rfl) (Val.assign rfl) ?_
  refine TL.val rfl rfl (Nat.le_of_ble_eq_true rfl) (Val.assign rfl) ?_
  refine TL.nil ?_
  refine AtX.then ?_
  refine TC.seq ?_
  refine TC.region ?_
  refine TL.val rfl rfl (Nat.le_of_ble_eq_true rfl) (Val.move rfl) ?_
  refine TL.val rfl rfl (Nat.le_of_ble_eq_true rfl) (Val.move rfl) ?_
  refine TL.does (some 11) rfl rfl rfl (Does.callF go48 rfl (Gen_fn b i s w g q _ hi)) ?_
  rintro _ _ ⟨rfl, rfl⟩
  refine TL.val rfl rfl (Nat.le_of_ble_eq_true rfl) (Val.add rfl rfl (r := g + 1) (w_i64 (by omega) (by omega))) ?_
  refine TL.val rfl rfl (Nat.le_of_ble_eq_true rfl) (Val.move rfl) ?_
  refine TL.val rfl rfl (Nat.le_of_ble_eq_true rfl) (Val.buildS pl61 ze61 rfl rfl) ?_
  refine TL.does (some 15) rfl rfl rfl (Does.callF go62 rfl (sSeal_fn b i s w g q ⟨2, 0, g + 1, 0, e, 0, 0⟩ _ hi hm)) ?_
  rintro _ _ ⟨bE, cE, spE, rfl, hcE, rfl⟩
  refine TL.val rfl rfl (Nat.le_of_ble_eq_true rfl) (Val.move rfl) ?_
  refine TL.val rfl rfl (Nat.le_of_ble_eq_true rfl) (Val.extract rfl rfl) ?_
  refine TL.val rfl rfl (Nat.le_of_ble_eq_true rfl) (Val.extract rfl rfl) ?_
  refine TL.val rfl rfl (Nat.le_of_ble_eq_true rfl) (Val.assign rfl) ?_
  refine TL.val rfl rfl (Nat.le_of_ble_eq_true rfl) (Val.assign rfl) ?_
  refine TL.nil ?_
  refine AtX.then ?_
  refine TC.env (E' := [(0, _), (4, _), (5, _), (6, _), (7, _)]) (Sub.cons rfl (Sub.cons rfl (Sub.cons rfl (Sub.cons rfl (Sub.cons rfl (Sub.nil _)))))) ?_
  refine TC.seq ?_
  refine TC.seq ?_
  refine TC.region ?_
  refine TL.val rfl rfl (Nat.le_of_ble_eq_true rfl) (Val.move rfl) ?_
  refine TL.val rfl rfl (Nat.le_of_ble_eq_true rfl) (Val.eqlI rfl rfl) ?_
  refine TL.nil ?_
  refine AtX.then ?_
  refine TC.env (E' := [(0, _), (4, _), (5, _), (6, _), (7, _), (19, _)]) (Sub.cons rfl (Sub.cons rfl (Sub.cons rfl (Sub.cons rfl (Sub.cons rfl (Sub.cons rfl (Sub.nil _))))))) ?_
  first | refine TC.condP rfl (fun c1 => ?_) (fun c1 => ?_) | refine TC.condN rfl (fun c1 => ?_) (fun c1 => ?_) | refine TC.condB rfl (fun c1 => ?_) (fun c1 => ?_) | refine TC.cond rfl (fun c1 => ?_) (fun c1 => ?_)
  · skip
    refine TC.env (E' := [(0, _), (4, _), (5, _), (6, _), (7, _)]) (Sub.cons rfl (Sub.cons rfl (Sub.cons rfl (Sub.cons rfl (Sub.cons rfl (Sub.nil _)))))) ?_
    refine TC.seq ?_
    have hi2 : ((bE, row 5 (bv (sealB (macKey s w g) ⟨2, w, g + 1, q + 1, e, 0, 0⟩) ++ spE)) :: M.set i (sobj b s w g (q + 1)))[i + 1]? = some (sobj b s w g (q + 1)) := by simp [hlt]
    refine TC.region ?_
    refine TL.val rfl rfl (Nat.le_of_ble_eq_true rfl) (Val.move rfl) ?_
    refine TL.val rfl rfl (Nat.le_of_ble_eq_true rfl) (Val.nilCheck rfl) ?_
    refine TL.val rfl rfl (Nat.le_of_ble_eq_true rfl) (Val.fieldAddr rfl fl121_2 sz3 rfl) ?_
    refine TL.val rfl rfl (Nat.le_of_ble_eq_true rfl) (Val.load (i + 1) rfl ag3 hi2 rfl) ?_
    refine TL.val rfl rfl (Nat.le_of_ble_eq_true rfl) (Val.add rfl rfl (r := g + 1) (w_i64 (by omega) (by omega))) ?_
    refine TL.val rfl rfl (Nat.le_of_ble_eq_true rfl) (Val.nilCheck rfl) ?_
    refine TL.val rfl rfl (Nat.le_of_ble_eq_true rfl) (Val.fieldAddr rfl fl121_2 sz3 rfl) ?_
    refine TL.does none rfl rfl rfl (Does.store (i := i + 1) (M' := (bE, row 5 (bv (sealB (macKey s w g) ⟨2, w, g + 1, q + 1, e, 0, 0⟩) ++ spE)) :: M.set i (sobj b s w (g + 1) (q + 1))) rfl rfl hi2 sz3 rfl rfl (by first | exact Nat.le_of_ble_eq_true rfl | decide | omega) rfl (by rw [List.set_cons_succ, List.set_set]; rfl)) ?_
    rintro _ _ ⟨rfl, rfl⟩
    refine TL.nil ?_
    refine AtX.then ?_
    refine TC.env (E' := [(0, _), (4, _), (5, _), (6, _), (7, _)]) (Sub.cons rfl (Sub.cons rfl (Sub.cons rfl (Sub.cons rfl (Sub.cons rfl (Sub.nil _)))))) ?_
    have hi3 : ((bE, row 5 (bv (sealB (macKey s w g) ⟨2, w, g + 1, q + 1, e, 0, 0⟩) ++ spE)) :: M.set i (sobj b s w (g + 1) (q + 1)))[i + 1]? = some (sobj b s w (g + 1) (q + 1)) := by simp [hlt]
    refine TC.region ?_
    refine TL.val rfl rfl (Nat.le_of_ble_eq_true rfl) (Val.move rfl) ?_
    refine TL.val rfl rfl (Nat.le_of_ble_eq_true rfl) (Val.nilCheck rfl) ?_
    refine TL.val rfl rfl (Nat.le_of_ble_eq_true rfl) (Val.fieldAddr rfl fl121_3 sz92 rfl) ?_
    refine TL.does (some 30) rfl rfl rfl (Does.callF go69 rfl (aStore_fn b 3 (i + 1) _ _ 0 _ hi3 (by simp))) ?_
    rintro _ _ ⟨rfl, rfl⟩
    refine TL.nil ?_
    refine AtX.then ?_
    refine TC.env (E' := [(4, _), (5, _), (6, _), (7, _)]) (Sub.cons rfl (Sub.cons rfl (Sub.cons rfl (Sub.cons rfl (Sub.nil _))))) ?_
    refine TC.seq ?_
    refine TC.region ?_
    refine TL.val rfl rfl (Nat.le_of_ble_eq_true rfl) (Val.move rfl) ?_
    refine TL.val rfl rfl (Nat.le_of_ble_eq_true rfl) (Val.move rfl) ?_
    refine TL.val rfl rfl (Nat.le_of_ble_eq_true rfl) (Val.assign rfl) ?_
    refine TL.val rfl rfl (Nat.le_of_ble_eq_true rfl) (Val.assign rfl) ?_
    refine TL.nil ?_
    refine AtX.then ?_
    refine TC.env (E' := [(4, _), (5, _)]) (Sub.cons rfl (Sub.cons rfl (Sub.nil _))) ?_
    refine TC.ret2 (fn := Try.f34) (fun _ _ h => h) rfl (RV.tmp rfl) (RV.tmp rfl) (M' := (bE, row 5 (bv (sealB (macKey s w g) ⟨2, w, g + 1, q + 1, e, 0, 0⟩) ++ spE)) :: M.set i (sobj b s w (g + 1) 0)) (fun w h => by rw [List.set_cons_succ, List.set_set] at h; exact h) ?_
    exact ⟨bE, _, spE, rfl, hcE, rfl⟩
  · skip
    exact absurd rfl c1

end Go.Proofs.Ytphoapajlcaoeaa
