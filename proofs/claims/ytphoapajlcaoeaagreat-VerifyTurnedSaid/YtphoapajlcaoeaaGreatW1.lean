/- Texts put together: A1, A2, A3, A4, A5, A6, A9, A10, A7, A8, A11, A12, A21, A22. -/
import Derived.Test.YtphoapajlcaoeaaGreatFB
import Derived.Test.YtphoapajlcaoeaaGreatG1
import Derived.Test.YtphoapajlcaoeaaGreatG2
/- walks -/
set_option linter.unusedVariables false
set_option linter.unusedSimpArgs false
set_option maxRecDepth 100000
set_option maxHeartbeats 4000000
namespace Go.Proofs.YtphoapajlcaoeaaGreat
open Go Go.X
/-- math/bits.RotateLeft64 -/
theorem rotl_fn (x : Int) (k : Nat) (M : Hp) (hk : k < 64) : FnC Tryz.prog 112 #[.int .u64 x, .int .i64 k] M (fun v M' => v = .int .u64 (rotl x k) ∧ M = M') := by
 refine FnC.intro Tryz.func112 rfl 17 rfl (by simp) (fun z => ?_)
 refine TC.en (E' := [(0, _), (1, _)]) ?_
 refine TC.sr ?_
 refine TL.v (Val.assign rfl) ?_
 refine TL.nt ?_
 refine TC.sr ?_
 refine TL.v (Val.move rfl) ?_
 refine TL.v (Val.convI rfl iu3 in37 (w_u64 (by omega) (by omega))) ?_
 refine TL.v (Val.and rfl rfl (r := (k : Nat)) (and63 ⟨k, hk⟩)) ?_
 refine TL.v (Val.assign rfl) ?_
 refine TL.nt ?_
 refine TC.en (E' := [(0, _), (4, _), (5, _)]) ?_
 refine TC.sr ?_
 refine TL.v (Val.move rfl) ?_
 refine TL.v (Val.move rfl) ?_
 refine TL.v (Val.shl rfl rfl (by omega) (r := IntKind.u64.wrap (x * 2 ^ k)) (by rw [show min ((k : Int)).toNat IntKind.u64.bits = k from by simp only [IntKind.bits]; omega])) ?_
 refine TL.v (Val.move rfl) ?_
 refine TL.v (Val.move rfl) ?_
 refine TL.v (Val.sub rfl rfl (r := ((64 - k : Nat) : Int)) (by rw [w_u64 (by omega) (by omega)]; omega)) ?_
 refine TL.v (Val.shr rfl rfl (by omega) (r := x.fdiv (2 ^ (64 - k))) (by rw [show min (((64 - k : Nat) : Int)).toNat IntKind.u64.bits = 64 - k from by simp only [IntKind.bits]; omega])) ?_
 refine TL.v (Val.or rfl rfl rfl) ?_
 refine TL.v (Val.assign rfl) ?_
 refine TL.nt ?_
 refine TC.en (E' := [(4, _)]) ?_
 refine TC.ret1 (fn := Tryz.f112) (fun _ _ h => h) rfl (RV.tmp rfl) (fun _ h => h) ?_
 exact ⟨rfl, rfl⟩

/-- quorumite/sip.Round -/
theorem Round_fn (w : W4) (M : Hp) : FnC Tryz.prog 111 #[.int .u64 w.a, .int .u64 w.b, .int .u64 w.c, .int .u64 w.d] M (fun v M' => v = .tuple #[.int .u64 (round1 w).a, .int .u64 (round1 w).b, .int .u64 (round1 w).c, .int .u64 (round1 w).d] ∧ M = M') := by
 refine FnC.intro Tryz.func111 rfl 48 rfl (by simp) (fun z => ?_)
 refine TC.en (E' := [(0, _), (1, _), (2, _), (3, _)]) ?_
 refine TC.sr ?_
 refine TL.v (Val.assign rfl) ?_
 refine TL.v (Val.assign rfl) ?_
 refine TL.v (Val.assign rfl) ?_
 refine TL.v (Val.assign rfl) ?_
 refine TL.nt ?_
 refine TC.sr ?_
 refine TL.v (Val.move rfl) ?_
 refine TL.v (Val.move rfl) ?_
 refine TL.v (Val.add rfl rfl rfl) ?_
 refine TL.v (Val.assign rfl) ?_
 refine TL.nt ?_
 refine TC.en (E' := [(0, _), (1, _), (2, _), (3, _), (8, _), (9, _), (10, _), (11, _)]) ?_
 refine TC.sr ?_
 refine TL.v (Val.move rfl) ?_
 refine TL.d (Does.callF go112 rfl (rotl_fn _ 13 _ (by decide))) ?_
 rintro _ _ ⟨rfl, rfl⟩
 refine TL.v (Val.move rfl) ?_
 refine TL.v (Val.xor rfl rfl rfl) ?_
 refine TL.v (Val.assign rfl) ?_
 refine TL.nt ?_
 refine TC.en (E' := [(0, _), (1, _), (2, _), (3, _), (8, _), (9, _), (10, _), (11, _)]) ?_
 refine TC.sr ?_
 refine TL.v (Val.move rfl) ?_
 refine TL.d (Does.callF go112 rfl (rotl_fn _ 32 _ (by decide))) ?_
 rintro _ _ ⟨rfl, rfl⟩
 refine TL.v (Val.assign rfl) ?_
 refine TL.nt ?_
 refine TC.en (E' := [(0, _), (1, _), (2, _), (3, _), (8, _), (9, _), (10, _), (11, _)]) ?_
 refine TC.sr ?_
 refine TL.v (Val.move rfl) ?_
 refine TL.v (Val.move rfl) ?_
 refine TL.v (Val.add rfl rfl rfl) ?_
 refine TL.v (Val.assign rfl) ?_
 refine TL.nt ?_
 refine TC.en (E' := [(0, _), (1, _), (2, _), (3, _), (8, _), (9, _), (10, _), (11, _)]) ?_
 refine TC.sr ?_
 refine TL.v (Val.move rfl) ?_
 refine TL.d (Does.callF go112 rfl (rotl_fn _ 16 _ (by decide))) ?_
 rintro _ _ ⟨rfl, rfl⟩
 refine TL.v (Val.move rfl) ?_
 refine TL.v (Val.xor rfl rfl rfl) ?_
 refine TL.v (Val.assign rfl) ?_
 refine TL.nt ?_
 refine TC.en (E' := [(0, _), (1, _), (2, _), (3, _), (8, _), (9, _), (10, _), (11, _)]) ?_
 refine TC.sr ?_
 refine TL.v (Val.move rfl) ?_
 refine TL.v (Val.move rfl) ?_
 refine TL.v (Val.add rfl rfl rfl) ?_
 refine TL.v (Val.assign rfl) ?_
 refine TL.nt ?_
 refine TC.en (E' := [(0, _), (1, _), (2, _), (3, _), (8, _), (9, _), (10, _), (11, _)]) ?_
 refine TC.sr ?_
 refine TL.v (Val.move rfl) ?_
 refine TL.d (Does.callF go112 rfl (rotl_fn _ 21 _ (by decide))) ?_
 rintro _ _ ⟨rfl, rfl⟩
 refine TL.v (Val.move rfl) ?_
 refine TL.v (Val.xor rfl rfl rfl) ?_
 refine TL.v (Val.assign rfl) ?_
 refine TL.nt ?_
 refine TC.en (E' := [(0, _), (1, _), (2, _), (3, _), (8, _), (9, _), (10, _), (11, _)]) ?_
 refine TC.sr ?_
 refine TL.v (Val.move rfl) ?_
 refine TL.v (Val.move rfl) ?_
 refine TL.v (Val.add rfl rfl rfl) ?_
 refine TL.v (Val.assign rfl) ?_
 refine TL.nt ?_
 refine TC.en (E' := [(0, _), (1, _), (2, _), (3, _), (8, _), (9, _), (10, _), (11, _)]) ?_
 refine TC.sr ?_
 refine TL.v (Val.move rfl) ?_
 refine TL.d (Does.callF go112 rfl (rotl_fn _ 17 _ (by decide))) ?_
 rintro _ _ ⟨rfl, rfl⟩
 refine TL.v (Val.move rfl) ?_
 refine TL.v (Val.xor rfl rfl rfl) ?_
 refine TL.v (Val.assign rfl) ?_
 refine TL.nt ?_
 refine TC.en (E' := [(0, _), (1, _), (2, _), (3, _), (8, _), (9, _), (10, _), (11, _)]) ?_
 refine TC.sr ?_
 refine TL.v (Val.move rfl) ?_
 refine TL.d (Does.callF go112 rfl (rotl_fn _ 32 _ (by decide))) ?_
 rintro _ _ ⟨rfl, rfl⟩
 refine TL.v (Val.assign rfl) ?_
 refine TL.nt ?_
 refine TC.en (E' := [(0, _), (1, _), (2, _), (3, _), (8, _), (9, _), (10, _), (11, _)]) ?_
 refine TC.sr ?_
 refine TL.v (Val.move rfl) ?_
 refine TL.v (Val.move rfl) ?_
 refine TL.v (Val.move rfl) ?_
 refine TL.v (Val.move rfl) ?_
 refine TL.v (Val.assign rfl) ?_
 refine TL.v (Val.assign rfl) ?_
 refine TL.v (Val.assign rfl) ?_
 refine TL.v (Val.assign rfl) ?_
 refine TL.nt ?_
 refine TC.en (E' := [(8, _), (9, _), (10, _), (11, _)]) ?_
 refine TC.ret4 (fn := Tryz.f111) (fun _ _ h => h) rfl (RV.tmp rfl) (RV.tmp rfl) (RV.tmp rfl) (RV.tmp rfl) (fun _ h => h) ?_
 exact ⟨rfl, rfl⟩

end Go.Proofs.YtphoapajlcaoeaaGreat
/- walks -/
set_option linter.unusedVariables false
set_option linter.unusedSimpArgs false
set_option maxRecDepth 100000
set_option maxHeartbeats 4000000
namespace Go.Proofs.YtphoapajlcaoeaaGreat
open Go Go.X
abbrev hobj (b : Nat) (w : W4) (A : Option Addr) (l c : Nat) (k : Int) : Nat × Obj := (b, .cells #[.int .u64 w.a, .int .u64 w.b, .int .u64 w.c, .int .u64 w.d, .slice A l c, .int .i64 k] 179 (0, 0))
/-- (*quorumite/sip.Hash).turn -/
theorem turn_fn (b : Nat) (w : W4) (A : Option Addr) (l c : Nat) (k : Int) (n : Nat) (M : Hp) (hn : n ≤ 1000) : FnC Tryz.prog 110 #[.pointer (some ⟨b, 0, none⟩), .int .i64 n] (hobj b w A l c k :: M) (fun v M' => v = .tuple #[] ∧ M' = hobj b (rounds n w) A l c k :: M) := by
 refine FnC.intro Tryz.func110 rfl 50 rfl (by simp) (fun z => ?_)
 refine TC.en (E' := [(0, _), (1, _)]) ?_
 refine TC.sr ?_
 refine TL.v (Val.move rfl) ?_
 refine TL.v (Val.move rfl) ?_
 refine TL.nt ?_
 refine TC.en (E' := [(0, _), (4, _), (5, _)]) ?_
 refine TC.block ?_
 refine TC.loop (ι := Nat) (fun j => [(0, .pointer (some ⟨b, 0, none⟩)), (4, .int .i64 n), (5, .int .i64 (j : Nat))]) (fun j => hobj b (rounds j w) A l c k :: M) (fun j => j ≤ n) (fun j => n - j) 0 ?_ (Sub.cons rfl (Sub.cons rfl (Sub.cons rfl (Sub.nil _)))) (fun _ h => h) ?_
 · exact Nat.zero_le _
 intro j hj
 refine TC.sr ?_
 refine TL.v (Val.lss rfl rfl) ?_
 refine TL.nt ?_
 refine TC.seq ?_
 refine TC.condP rfl (fun c1 => ?_) (fun c1 => ?_)
 ·
  refine TC.skip ?_
  refine AtX.then ?_
  refine TC.seq ?_
  refine TC.block ?_
  refine TC.drawG [33] M mixed 46 ?_
  refine TG.tk false 0 1 rfl rfl rfl (Val.move rfl) ?_
  refine TG.tw false 1 3 rfl rfl rfl (Val.move rfl) ?_
  refine TG.tw false 2 7 rfl rfl rfl (Val.move rfl) ?_
  refine TG.tw false 3 15 rfl rfl rfl (Val.move rfl) ?_
  refine TG.tk false 4 31 rfl rfl rfl (Val.move rfl) ?_
  refine TG.tk false 5 63 rfl rfl rfl (Val.nilCheck rfl) ?_
  refine TG.tk false 6 127 rfl rfl rfl (Val.fieldAddr rfl fl179_0 sz164 rfl) ?_
  refine TG.tk false 7 255 rfl rfl rfl (Val.indexAddrA (i := 0) rfl rfl ar164 sz24 rfl (by first | decide | omega) rfl) ?_
  refine TG.tk false 8 511 rfl rfl rfl (Val.load 0 rfl ag24 rfl rfl) ?_
  refine TG.tk false 9 1023 rfl rfl rfl (Val.move rfl) ?_
  refine TG.tk false 10 2047 rfl rfl rfl (Val.nilCheck rfl) ?_
  refine TG.tk false 11 4095 rfl rfl rfl (Val.fieldAddr rfl fl179_0 sz164 rfl) ?_
  refine TG.tk false 12 8191 rfl rfl rfl (Val.indexAddrA (i := 1) rfl rfl ar164 sz24 rfl (by first | decide | omega) rfl) ?_
  refine TG.tk false 13 16383 rfl rfl rfl (Val.load 0 rfl ag24 rfl rfl) ?_
  refine TG.tk false 14 32767 rfl rfl rfl (Val.move rfl) ?_
  refine TG.tk false 15 65535 rfl rfl rfl (Val.nilCheck rfl) ?_
  refine TG.tk false 16 131071 rfl rfl rfl (Val.fieldAddr rfl fl179_0 sz164 rfl) ?_
  refine TG.tk false 17 262143 rfl rfl rfl (Val.indexAddrA (i := 2) rfl rfl ar164 sz24 rfl (by first | decide | omega) rfl) ?_
  refine TG.tk false 18 524287 rfl rfl rfl (Val.load 0 rfl ag24 rfl rfl) ?_
  refine TG.tk false 19 1048575 rfl rfl rfl (Val.move rfl) ?_
  refine TG.tk false 20 2097151 rfl rfl rfl (Val.nilCheck rfl) ?_
  refine TG.tk false 21 4194303 rfl rfl rfl (Val.fieldAddr rfl fl179_0 sz164 rfl) ?_
  refine TG.tk false 22 8388607 rfl rfl rfl (Val.indexAddrA (i := 3) rfl rfl ar164 sz24 rfl (by first | decide | omega) rfl) ?_
  refine TG.tk false 23 16777215 rfl rfl rfl (Val.load 0 rfl ag24 rfl rfl) ?_
  refine TG.tw false 30 1090519039 rfl rfl rfl (Val.nilCheck rfl) ?_
  refine TG.tw false 31 3238002687 rfl rfl rfl (Val.fieldAddr rfl fl179_0 sz164 rfl) ?_
  refine TG.tw false 34 20417871871 rfl rfl rfl (Val.nilCheck rfl) ?_
  refine TG.tw false 35 54777610239 rfl rfl rfl (Val.fieldAddr rfl fl179_0 sz164 rfl) ?_
  refine TG.tw false 38 329655517183 rfl rfl rfl (Val.nilCheck rfl) ?_
  refine TG.tw false 39 879411331071 rfl rfl rfl (Val.fieldAddr rfl fl179_0 sz164 rfl) ?_
  refine TG.tw false 42 5277457842175 rfl rfl rfl (Val.nilCheck rfl) ?_
  refine TG.tw false 43 14073550864383 rfl rfl rfl (Val.fieldAddr rfl fl179_0 sz164 rfl) ?_
  refine TG.one 24 (by kernel_rfl) ?_
  refine TP.dz false 14073567641599 (some 32) rfl rfl rfl rfl (Does.callF go111 rfl (Round_fn (rounds j w) _)) ?_
  rintro _ _ ⟨rfl, rfl⟩
  refine roK ?_
  refine TG.tk false 25 14073601196031 rfl rfl rfl (Val.move rfl) ?_
  refine TG.tk false 26 14073668304895 rfl rfl rfl (Val.extract rfl rfl) ?_
  refine TG.tw false 27 14073802522623 rfl rfl rfl (Val.extract rfl rfl) ?_
  refine TG.tw false 28 14074070958079 rfl rfl rfl (Val.extract rfl rfl) ?_
  refine TG.tw false 29 14074607828991 rfl rfl rfl (Val.extract rfl rfl) ?_
  refine TG.tk false 32 14078902796287 rfl rfl rfl (Val.indexAddrA (i := 0) rfl rfl ar164 sz24 rfl (by first | decide | omega) rfl) ?_
  refine TG.one 33 (by kernel_rfl) ?_
  refine TP.dz true 14087492730879 none rfl rfl rfl rfl (Does.store (i := 0) rfl rfl rfl sz24 rfl rfl (by first | exact Nat.le_of_ble_eq_true rfl | decide | omega) rfl rfl) ?_
  rintro _ _ ⟨rfl, rfl⟩
  refine roK ?_
  refine TG.tk true 36 14156212207615 rfl rfl rfl (Val.indexAddrA (i := 1) rfl rfl ar164 sz24 rfl (by first | decide | omega) rfl) ?_
  refine TG.one 37 (by kernel_rfl) ?_
  refine TP.dz true 14293651161087 none rfl rfl rfl rfl (Does.store (i := 0) rfl rfl rfl sz24 rfl rfl (by first | exact Nat.le_of_ble_eq_true rfl | decide | omega) rfl rfl) ?_
  rintro _ _ ⟨rfl, rfl⟩
  refine roK ?_
  refine TG.tk true 40 15393162788863 rfl rfl rfl (Val.indexAddrA (i := 2) rfl rfl ar164 sz24 rfl (by first | decide | omega) rfl) ?_
  refine TG.one 41 (by kernel_rfl) ?_
  refine TP.dz true 17592186044415 none rfl rfl rfl rfl (Does.store (i := 0) rfl rfl rfl sz24 rfl rfl (by first | exact Nat.le_of_ble_eq_true rfl | decide | omega) rfl rfl) ?_
  rintro _ _ ⟨rfl, rfl⟩
  refine roK ?_
  refine TG.tk true 44 35184372088831 rfl rfl rfl (Val.indexAddrA (i := 3) rfl rfl ar164 sz24 rfl (by first | decide | omega) rfl) ?_
  refine TG.one 45 (by kernel_rfl) ?_
  refine TP.dz true 70368744177663 none rfl rfl rfl rfl (Does.store (i := 0) rfl rfl rfl sz24 rfl rfl (by first | exact Nat.le_of_ble_eq_true rfl | decide | omega) rfl rfl) ?_
  rintro _ _ ⟨rfl, rfl⟩
  refine roK ?_
  refine TG.done (by kernel_rfl) ?_ _
  refine AtX.blk ?_
  refine AtX.then ?_
  refine TC.region ?_
  refine TL.v (Val.add rfl rfl (w_i64 (by omega) (by omega))) ?_
  refine TL.v (Val.move rfl) ?_
  refine TL.nil ?_
  refine AtX.round (j + 1) ?_ ?_ (Sub.cons rfl (Sub.cons rfl (Sub.cons rfl (Sub.nil _)))) (fun _ h => h)
  · omega
  · omega
 ·
  refine TC.exit ?_
  refine AtX.seqX ?_
  refine AtX.seqX ?_
  refine AtX.hit ?_
  refine AtX.end0 rfl (fun _ h => h) ?_
  have hjn : j = n := by omega
  subst hjn
  exact ⟨rfl, rfl⟩

end Go.Proofs.YtphoapajlcaoeaaGreat
/- walks -/
set_option linter.unusedVariables false
set_option linter.unusedSimpArgs false
set_option maxRecDepth 100000
set_option maxHeartbeats 4000000
namespace Go.Proofs.YtphoapajlcaoeaaGreat
open Go Go.X
/-- (*quorumite/sip.Hash).take -/
theorem take_fn (b : Nat) (w : W4) (A : Option Addr) (l c : Nat) (k m : Int) (M : Hp) : FnC Tryz.prog 109 #[.pointer (some ⟨b, 0, none⟩), .int .u64 m] (hobj b w A l c k :: M) (fun v M' => v = .tuple #[] ∧ M' = hobj b (takeW m w) A l c k :: M) := by
 refine FnC.intro Tryz.func109 rfl 26 rfl (by simp) (fun z => ?_)
 refine TC.en (E' := [(0, _), (1, _)]) ?_
 refine TC.seq ?_
 refine TC.drawG [10] M mixed 11 ?_
 refine TG.tk false 0 1 rfl rfl rfl (Val.move rfl) ?_
 refine TG.tk false 1 3 rfl rfl rfl (Val.nilCheck rfl) ?_
 refine TG.tk false 2 7 rfl rfl rfl (Val.fieldAddr rfl fl179_0 sz164 rfl) ?_
 refine TG.tk false 3 15 rfl rfl rfl (Val.indexAddrA (i := 3) rfl rfl ar164 sz24 rfl (by first | decide | omega) rfl) ?_
 refine TG.tk false 4 31 rfl rfl rfl (Val.load 0 rfl ag24 rfl rfl) ?_
 refine TG.tk false 5 63 rfl rfl rfl (Val.move rfl) ?_
 refine TG.tk false 6 127 rfl rfl rfl (Val.xor rfl rfl rfl) ?_
 refine TG.tw false 7 255 rfl rfl rfl (Val.nilCheck rfl) ?_
 refine TG.tw false 8 511 rfl rfl rfl (Val.fieldAddr rfl fl179_0 sz164 rfl) ?_
 refine TG.tk false 9 1023 rfl rfl rfl (Val.indexAddrA (i := 3) rfl rfl ar164 sz24 rfl (by first | decide | omega) rfl) ?_
 refine TG.one 10 (by kernel_rfl) ?_
 refine TP.dz true 2047 none rfl rfl rfl rfl (Does.store (i := 0) rfl rfl rfl sz24 rfl rfl (by first | exact Nat.le_of_ble_eq_true rfl | decide | omega) rfl rfl) ?_
 rintro _ _ ⟨rfl, rfl⟩
 refine roK ?_
 refine TG.done (by kernel_rfl) ?_ _
 refine AtX.then ?_
 refine TC.en (E' := [(0, _), (1, _)]) ?_
 refine TC.sr ?_
 refine TL.v (Val.move rfl) ?_
 refine TL.d (Does.callF go110 rfl (turn_fn b { w with d := xor64 w.d m } A l c k 2 M (by decide))) ?_
 rintro _ _ ⟨rfl, rfl⟩
 generalize hv : rounds 2 { w with d := xor64 w.d m } = v
 refine TL.nt ?_
 refine TC.en (E' := [(0, _), (1, _)]) ?_
 refine TC.drawG [10] M mixed 11 ?_
 refine TG.tk false 0 1 rfl rfl rfl (Val.move rfl) ?_
 refine TG.tk false 1 3 rfl rfl rfl (Val.nilCheck rfl) ?_
 refine TG.tk false 2 7 rfl rfl rfl (Val.fieldAddr rfl fl179_0 sz164 rfl) ?_
 refine TG.tk false 3 15 rfl rfl rfl (Val.indexAddrA (i := 0) rfl rfl ar164 sz24 rfl (by first | decide | omega) rfl) ?_
 refine TG.tk false 4 31 rfl rfl rfl (Val.load 0 rfl ag24 rfl rfl) ?_
 refine TG.tk false 5 63 rfl rfl rfl (Val.move rfl) ?_
 refine TG.tk false 6 127 rfl rfl rfl (Val.xor rfl rfl rfl) ?_
 refine TG.tw false 7 255 rfl rfl rfl (Val.nilCheck rfl) ?_
 refine TG.tw false 8 511 rfl rfl rfl (Val.fieldAddr rfl fl179_0 sz164 rfl) ?_
 refine TG.tk false 9 1023 rfl rfl rfl (Val.indexAddrA (i := 0) rfl rfl ar164 sz24 rfl (by first | decide | omega) rfl) ?_
 refine TG.one 10 (by kernel_rfl) ?_
 refine TP.dz true 2047 none rfl rfl rfl rfl (Does.store (i := 0) rfl rfl rfl sz24 rfl rfl (by first | exact Nat.le_of_ble_eq_true rfl | decide | omega) rfl rfl) ?_
 rintro _ _ ⟨rfl, rfl⟩
 refine roK ?_
 refine TG.done (by kernel_rfl) ?_ _
 refine AtX.end0 rfl (fun _ h => h) ?_
 rw [takeW_eq hv]
 exact ⟨rfl, rfl⟩

/-- quorumite/sip.begin -/
theorem begin_fn (M : Hp) : FnC Tryz.prog 108 #[] M (fun v M' => v = .agg #[.int .u64 w0.a, .int .u64 w0.b, .int .u64 w0.c, .int .u64 w0.d] ∧ M = M') := by
 refine FnC.intro Tryz.func108 rfl 25 rfl (by simp) (fun z => ?_)
 refine TC.en (E' := []) ?_
 refine TC.sr ?_
 refine TL.d (Does.alloc ze164 rfl) ?_
 rintro _ _ ⟨b1, rfl, rfl⟩
 refine TL.nt ?_
 refine TC.seq ?_
 refine TC.sr ?_
 refine TL.v (Val.move rfl) ?_
 refine TL.nt ?_
 refine TC.block ?_
 refine TC.loop (ι := Nat) (fun k => [(0, .pointer (some ⟨b1, 0, none⟩)), (3, .int .i64 (k : Nat))]) (fun k => (b1, .cells (begR k 0).toArray 164 (0, 0)) :: M) (fun k => k ≤ 4) (fun k => 4 - k) 0 ?_ (Sub.cons rfl (Sub.cons rfl (Sub.nil _))) (fun w h => by rw [begR_0]; exact h) ?_
 · exact Nat.zero_le _
 intro k hk
 refine TC.sr ?_
 refine TL.v (Val.lss rfl rfl) ?_
 refine TL.nt ?_
 refine TC.seq ?_
 refine TC.condP rfl (fun c1 => ?_) (fun c1 => ?_)
 ·
  refine TC.skip ?_
  refine AtX.then ?_
  refine TC.seq ?_
  refine TC.block ?_
  refine TC.sr ?_
  refine TL.v (Val.move rfl) ?_
  refine TL.v (Val.assign rfl) ?_
  refine TL.nt ?_
  refine TC.sr ?_
  refine TL.v (Val.move rfl) ?_
  refine TL.nt ?_
  refine TC.block ?_
  refine TC.loop (ι := Nat) (fun i => [(0, .pointer (some ⟨b1, 0, none⟩)), (1, .int .i64 (k : Nat)), (3, .int .i64 (k : Nat)), (6, .int .i64 (i : Nat))]) (fun i => (b1, .cells (begR k i).toArray 164 (0, 0)) :: M) (fun i => i ≤ 8) (fun i => 8 - i) 0 ?_ (Sub.cons rfl (Sub.cons rfl (Sub.cons rfl (Sub.cons rfl (Sub.nil _))))) (fun _ h => h) ?_
  · exact Nat.zero_le _
  intro i hi
  refine TC.sr ?_
  refine TL.v (Val.lss rfl rfl) ?_
  refine TL.nt ?_
  refine TC.seq ?_
  refine TC.condP rfl (fun c2 => ?_) (fun c2 => ?_)
  ·
   refine TC.skip ?_
   refine AtX.then ?_
   refine TC.seq ?_
   refine TC.block ?_
   refine TC.sr ?_
   refine TL.v (Val.move rfl) ?_
   refine TL.v (Val.assign rfl) ?_
   refine TL.nt ?_
   have hk4 : k < 4 := by omega
   have hi8 : i < 8 := by omega
   refine TC.drawG [13] M mixed 14 ?_
   refine TG.tk false 0 1 rfl rfl rfl (Val.move rfl) ?_
   refine TG.tk false 1 3 rfl rfl rfl (Val.move rfl) ?_
   refine TG.tk false 2 7 rfl rfl rfl (Val.indexAddrA (i := k) (r := k) rfl rfl ar164 sz24 rfl hk4 (by omega)) ?_
   refine TG.tk false 3 15 rfl rfl rfl (Val.load 0 rfl ag24 rfl (v := .int .u64 (bw k i)) (by simpa using begR_nth hk4)) ?_
   refine TG.tk false 4 31 rfl rfl rfl (Val.shl rfl rfl (by omega) (r := IntKind.u64.wrap (bw k i * 2 ^ 8)) rfl) ?_
   refine TG.tk false 5 63 rfl rfl rfl (Val.move rfl) ?_
   refine TG.tk false 6 127 rfl rfl rfl (Val.mul rfl rfl (r := 8 * (k : Int)) (w_i64 (by omega) (by omega))) ?_
   refine TG.tk false 7 255 rfl rfl rfl (Val.move rfl) ?_
   refine TG.tk false 8 511 rfl rfl rfl (Val.add rfl rfl (r := ((8 * k + i : Nat) : Int)) (by rw [w_i64 (by omega) (by omega)]; push_cast; rfl)) ?_
   refine TG.tk false 9 1023 rfl rfl rfl (Val.indexL (l := txtB) (i := 8 * k + i) rfl rfl un9 rfl (by show 8 * k + i < 32; omega)) ?_
   refine TG.tk false 10 2047 rfl rfl rfl (Val.convI rfl iu5 in24 (w_u64 (by have := UInt8.toNat_lt (txtB.getD (8 * k + i) 0); omega) (by have := UInt8.toNat_lt (txtB.getD (8 * k + i) 0); omega))) ?_
   refine TG.tk false 11 4095 rfl rfl rfl (Val.or rfl rfl (r := bw k (i + 1)) rfl) ?_
   refine TG.tk false 12 8191 rfl rfl rfl (Val.indexAddrA (i := k) (r := k) rfl rfl ar164 sz24 rfl hk4 (by omega)) ?_
   refine TG.one 13 (by kernel_rfl) ?_
   refine TP.dz true 16383 none rfl rfl rfl rfl (Does.store (i := 0) rfl rfl rfl sz24 rfl rfl (by simp [begR]; omega) (begR_splice (i := i) hk4) rfl) ?_
   rintro _ _ ⟨rfl, rfl⟩
   refine roK ?_
   refine TG.done (by kernel_rfl) ?_ _
   refine AtX.blk ?_
   refine AtX.then ?_
   refine TC.region ?_
   refine TL.v (Val.add rfl rfl (w_i64 (by omega) (by omega))) ?_
   refine TL.v (Val.move rfl) ?_
   refine TL.nil ?_
   refine AtX.round (i + 1) ?_ ?_ (Sub.cons rfl (Sub.cons rfl (Sub.cons rfl (Sub.cons rfl (Sub.nil _))))) (fun _ h => h)
   · omega
   · omega
  ·
   refine TC.exit ?_
   refine AtX.seqX ?_
   refine AtX.seqX ?_
   refine AtX.hit ?_
   refine AtX.blk ?_
   refine AtX.then ?_
   have h8 : i = 8 := by omega
   subst h8
   refine TC.region ?_
   refine TL.v (Val.add rfl rfl (w_i64 (by omega) (by omega))) ?_
   refine TL.v (Val.move rfl) ?_
   refine TL.nil ?_
   refine AtX.round (k + 1) ?_ ?_ (Sub.cons rfl (Sub.cons rfl (Sub.nil _))) (fun w h => by rw [← begR_next]; exact h)
   · omega
   · omega
 ·
  refine TC.exit ?_
  refine AtX.seqX ?_
  refine AtX.seqX ?_
  refine AtX.hit ?_
  refine AtX.then ?_
  refine TC.en (E' := [(0, _)]) ?_
  refine TC.seq ?_
  have h4 : k = 4 := by omega
  subst h4
  rw [begR_end]
  refine TC.region ?_
  refine TL.v (Val.loadAgg 0 rfl ag164 sz164 rfl rfl rfl) ?_
  refine TL.d (Does.store (i := 0) rfl rfl rfl sz164 rfl rfl (by first | exact Nat.le_of_ble_eq_true rfl | decide | omega) rfl rfl) ?_
  rintro _ _ ⟨rfl, rfl⟩
  refine TL.nt ?_
  refine TC.en (E' := [(0, _)]) ?_
  refine TC.ret1 (fn := Tryz.f108) (fun _ _ h => h) rfl (RV.agg (i := 0) rfl ag164 sz164 rfl rfl rfl) (M' := M) (by repeat (first | exact ro_refl | exact ro_pre | refine ro_tail ?_ | refine ro_app ?_)) ?_
  exact ⟨rfl, rfl⟩

/-- quorumite/sip.New -/
theorem New_fn (k : K2) (M : Hp) : FnC Tryz.prog 103 #[.agg #[.int .u64 k.a, .int .u64 k.b]] M (fun v M' => ∃ b, v = .pointer (some ⟨b, 0, none⟩) ∧ M' = hobj b (keyW k.a k.b) none 0 0 0 :: M) := by
 refine FnC.intro Tryz.func103 rfl 27 rfl (by simp) (fun z => ?_)
 refine TC.en (E' := [(0, _)]) ?_
 refine TC.sr ?_
 refine TL.d (Does.box rfl rfl) ?_
 rintro _ _ ⟨b1, rfl, rfl⟩
 refine TL.v (Val.assign rfl) ?_
 refine TL.nt ?_
 refine TC.en (E' := [(1, _), (2, _)]) ?_
 refine TC.sr ?_
 refine TL.d (Does.callF go108 rfl (begin_fn _)) ?_
 rintro _ _ ⟨rfl, rfl⟩
 refine TL.v (Val.buildS pl179 ze179 rfl rfl) ?_
 refine TL.d (Does.box rfl rfl) ?_
 rintro _ _ ⟨b3, rfl, rfl⟩
 refine TL.v (Val.assign rfl) ?_
 refine TL.nt ?_
 refine TC.en (E' := [(1, _), (2, _), (3, _)]) ?_
 refine TC.seq ?_
 refine TC.sr ?_
 refine TL.v (Val.move rfl) ?_
 refine TL.nt ?_
 refine TC.en (E' := [(1, _), (2, _), (3, _), (8, _)]) ?_
 refine TC.block ?_
 refine TC.loop (ι := Nat) (fun i => [(1, .pointer (some ⟨b1, 0, none⟩)), (3, .pointer (some ⟨b3, 0, none⟩)), (8, .int .i64 (i : Nat))]) (fun i => (b3, .cells (newR k i).toArray 179 (0, 0)) :: (b1, .cells #[.int .u64 k.a, .int .u64 k.b] 57 (0, 0)) :: M) (fun i => i ≤ 4) (fun i => 4 - i) 0 ?_ (Sub.cons rfl (Sub.cons rfl (Sub.cons rfl (Sub.nil _)))) (fun _ h => h) ?_
 · exact Nat.zero_le _
 intro i hi
 refine TC.sr ?_
 refine TL.v (Val.lss rfl rfl) ?_
 refine TL.nt ?_
 refine TC.seq ?_
 refine TC.condP rfl (fun c1 => ?_) (fun c1 => ?_)
 ·
  refine TC.skip ?_
  refine AtX.then ?_
  refine TC.seq ?_
  refine TC.block ?_
  refine TC.sr ?_
  refine TL.v (Val.move rfl) ?_
  refine TL.v (Val.assign rfl) ?_
  refine TL.nt ?_
  have hi4 : i < 4 := by omega
  refine TC.drawG [14] M mixed 15 ?_
  refine TG.tk false 0 1 rfl rfl rfl (Val.move rfl) ?_
  refine TG.tk false 1 3 rfl rfl rfl (Val.move rfl) ?_
  refine TG.tk false 2 7 rfl rfl rfl (Val.nilCheck rfl) ?_
  refine TG.tk false 3 15 rfl rfl rfl (Val.fieldAddr rfl fl179_0 sz164 rfl) ?_
  refine TG.tk false 4 31 rfl rfl rfl (Val.indexAddrA (i := i) (r := i) rfl rfl ar164 sz24 rfl hi4 (by omega)) ?_
  refine TG.tk false 5 63 rfl rfl rfl (Val.load 0 rfl ag24 rfl (v := .int .u64 (wj i)) (by simpa using newR_nth hi4)) ?_
  refine TG.tk false 6 127 rfl rfl rfl (Val.move rfl) ?_
  refine TG.tk false 7 255 rfl rfl rfl (Val.rem rfl rfl (by omega) (r := ((i % 2 : Nat) : Int)) (rem_nat i 2)) ?_
  refine TG.tk false 8 511 rfl rfl rfl (Val.indexAddrA (i := i % 2) (r := i % 2) rfl rfl ar57 sz24 rfl (by omega) (by omega)) ?_
  refine TG.tk false 9 1023 rfl rfl rfl (Val.load 1 rfl ag24 rfl (v := .int .u64 (kk k i)) (by simpa using kk_nth k i)) ?_
  refine TG.tk false 10 2047 rfl rfl rfl (Val.xor rfl rfl (r := xor64 (wj i) (kk k i)) rfl) ?_
  refine TG.tw false 11 4095 rfl rfl rfl (Val.nilCheck rfl) ?_
  refine TG.tw false 12 8191 rfl rfl rfl (Val.fieldAddr rfl fl179_0 sz164 rfl) ?_
  refine TG.tk false 13 16383 rfl rfl rfl (Val.indexAddrA (i := i) (r := i) rfl rfl ar164 sz24 rfl hi4 (by omega)) ?_
  refine TG.one 14 (by kernel_rfl) ?_
  refine TP.dz true 32767 none rfl rfl rfl rfl (Does.store (i := 0) rfl rfl rfl sz24 rfl rfl (by simp [newR]; omega) (newR_splice (k := k) hi4) rfl) ?_
  rintro _ _ ⟨rfl, rfl⟩
  refine roK ?_
  refine TG.done (by kernel_rfl) ?_ _
  refine AtX.blk ?_
  refine AtX.then ?_
  refine TC.region ?_
  refine TL.v (Val.add rfl rfl (w_i64 (by omega) (by omega))) ?_
  refine TL.v (Val.move rfl) ?_
  refine TL.nil ?_
  refine AtX.round (i + 1) ?_ ?_ (Sub.cons rfl (Sub.cons rfl (Sub.cons rfl (Sub.nil _)))) (fun _ h => h)
  · omega
  · omega
 ·
  refine TC.exit ?_
  refine AtX.seqX ?_
  refine AtX.seqX ?_
  refine AtX.hit ?_
  refine AtX.then ?_
  refine TC.en (E' := [(3, _)]) ?_
  refine TC.seq ?_
  have h4 : i = 4 := by omega
  subst h4
  rw [newR_end]
  refine TC.region ?_
  refine TL.v (Val.move rfl) ?_
  refine TL.v (Val.assign rfl) ?_
  refine TL.nt ?_
  refine TC.en (E' := [(2, _)]) ?_
  refine TC.ret1 (fn := Tryz.f103) (fun _ _ h => h) rfl (RV.tmp rfl) (M' := hobj b3 (keyW k.a k.b) none 0 0 0 :: M) (fun w h => ro_del 1 rfl w h) ?_
  exact ⟨b3, rfl, rfl⟩

end Go.Proofs.YtphoapajlcaoeaaGreat
/- walks -/
set_option linter.unusedVariables false
set_option linter.unusedSimpArgs false
set_option maxRecDepth 100000
set_option maxHeartbeats 4000000
namespace Go.Proofs.YtphoapajlcaoeaaGreat
open Go Go.X
/-- quorumite/sip.Put -/
theorem sipPut_fn (n : Int) (M : Hp) : FnC Tryz.prog 101 #[.int .u64 n] M (fun v M' => ∃ b c sp, v = .slice (some ⟨b, 0, none⟩) 8 c ∧ 8 + sp.length = c ∧ M' = (b, row 5 (bv (put8 n) ++ sp)) :: M) := by
 refine FnC.intro Tryz.func101 rfl 19 rfl (by simp) (fun z => ?_)
 refine TC.en (E' := [(0, _)]) ?_
 refine TC.sr ?_
 refine TL.v (Val.assign rfl) ?_
 refine TL.nt ?_
 refine TC.sr ?_
 refine TL.v (Val.assign rfl) ?_
 refine TL.nt ?_
 refine TC.seq ?_
 refine TC.sr ?_
 refine TL.v (Val.move rfl) ?_
 refine TL.nt ?_
 refine TC.block ?_
 refine TC.loop (ι := (Nat × Sl)) (fun i => [(0, .int .u64 n), (3, .slice (slA i.2) i.1 (slC i.2)), (5, .int .i64 (i.1 : Nat))]) (fun i => slH i.2 5 (bv (pb n i.1)) ++ M) (fun i => i.1 ≤ 8 ∧ slOk i.2 1 i.1 (bv (pb n i.1))) (fun i => 8 - i.1) (0, none) ?_ (Sub.cons rfl (Sub.cons rfl (Sub.cons rfl (Sub.nil _)))) (fun _ h => h) ?_
 · exact ⟨by omega, slOk_nil 1⟩
 rintro ⟨k, σ⟩ ⟨hk, hok⟩
 dsimp only at hk hok ⊢
 refine TC.sr ?_
 refine TL.v (Val.lss rfl rfl) ?_
 refine TL.nt ?_
 refine TC.seq ?_
 refine TC.condP rfl (fun c1 => ?_) (fun c1 => ?_)
 ·
  refine TC.skip ?_
  refine AtX.then ?_
  refine TC.seq ?_
  refine TC.block ?_
  refine TC.sr ?_
  refine TL.v (Val.move rfl) ?_
  refine TL.v (Val.assign rfl) ?_
  refine TL.nt ?_
  refine TC.region ?_
  refine TL.v (Val.move rfl) ?_
  refine TL.v (Val.move rfl) ?_
  refine TL.v (Val.move rfl) ?_
  refine TL.v (Val.mul rfl rfl (w_i64 (by omega) (by omega))) ?_
  refine TL.v (Val.convI rfl iu3 in37 (w_u64 (by omega) (by omega))) ?_
  refine TL.v (Val.shr rfl rfl (by omega) (shr_val (by omega))) ?_
  refine TL.v (Val.convI rfl iu24 in5 w_b8) ?_
  refine TL.d (Does.buildSlice sl34 sz5 ze5 (by decide) (by decide) rfl rfl rfl) ?_
  rintro _ _ ⟨b1, rfl, rfl⟩
  refine TL.d (Does.appendS (xs := bv (pb n k)) (ys := bv [byteAt n k]) σ M (ro_tail ro_refl) rfl rfl sl34 sz5 by5 ze5 rfl hok (.inl ⟨_, _, rfl, ⟨5, us34⟩, .some (Rd.get (i := 0) rfl rfl)⟩) rfl (bv_one _) (by omega) (by omega)) ?_
  rintro _ _ ⟨σ1, rfl, hok1, rfl⟩
  refine TL.v (Val.assign rfl) ?_
  refine TL.nil ?_
  refine AtX.blk ?_
  refine AtX.then ?_
  refine TC.region ?_
  refine TL.v (Val.add rfl rfl (w_i64 (by omega) (by omega))) ?_
  refine TL.v (Val.move rfl) ?_
  refine TL.nil ?_
  refine AtX.round (i := (k, σ)) (k + 1, σ1) ?_ ?_ (Sub.cons rfl (Sub.cons rfl (Sub.cons rfl (Sub.nil _)))) (fun w h => by simp only [pb, bv_append]; exact h)
  · exact ⟨by omega, by simp only [pb, bv_append]; exact hok1⟩
  · show 8 - (k + 1) < 8 - k; omega
 ·
  refine TC.exit ?_
  refine AtX.seqX ?_
  refine AtX.seqX ?_
  refine AtX.hit ?_
  refine AtX.then ?_
  refine TC.en (E' := [(3, _)]) ?_
  refine TC.sr ?_
  refine TL.v (Val.move rfl) ?_
  refine TL.v (Val.assign rfl) ?_
  refine TL.nt ?_
  refine TC.en (E' := [(2, _)]) ?_
  refine TC.ret1 (fn := Tryz.f101) (fun _ _ h => h) rfl (RV.tmp rfl) (fun _ h => h) ?_
  have h8 : k = 8 := by omega
  subst h8
  obtain ⟨b, c, sp, rfl, hc⟩ := hok.some (by omega)
  exact ⟨b, c, sp, rfl, by simpa using hc, rfl⟩

/-- quorumite/sip.Get -/
theorem sipGet_fn (l : List UInt8) (A : Option Addr) (n c : Nat) (o : Nat) (M : Hp) (hA : RdS M A (bv l)) (hn : n = l.length) (hl : l.length ≤ 1000) (ho : o + 8 ≤ l.length) : FnC Tryz.prog 94 #[.slice A n c, .int .i64 o] M (fun v M' => v = .tuple #[.int .u64 (get8 l o : Nat), .int .i64 0] ∧ M = M') := by
 subst hn
 obtain ⟨b, q, rfl, hR⟩ := RdS.get hA (by simp; omega)
 refine FnC.intro Tryz.func94 rfl 35 rfl (by simp) (fun z => ?_)
 refine TC.en (E' := [(0, _), (1, _)]) ?_
 refine TC.sr ?_
 refine TL.v (Val.assign rfl) ?_
 refine TL.v (Val.assign rfl) ?_
 refine TL.nt ?_
 refine TC.seq ?_
 refine TC.sr ?_
 refine TL.v (Val.move rfl) ?_
 refine TL.v (Val.lss rfl rfl) ?_
 refine TL.v (Val.move rfl) ?_
 refine TL.gen (fun g1 hg1 => ?_)
 refine TL.gv rfl rfl rfl (fun hg => by subst hg; exact (Val.move rfl)) ?_
 refine TL.gv rfl rfl rfl (fun hg => by subst hg; exact (Val.move rfl)) ?_
 refine TL.gv rfl rfl rfl (fun hg => by subst hg; exact (Val.lenSl rfl rfl sl34)) ?_
 refine TL.gv rfl rfl rfl (fun hg => by subst hg; exact (Val.sub rfl rfl (w_i64 (by omega) (by omega)))) ?_
 refine TL.gv rfl rfl rfl (fun hg => by subst hg; exact (Val.gtr rfl rfl)) ?_
 refine TL.v (Val.pickOr rfl rfl rfl) ?_
 refine TL.nt ?_
 refine TC.en (E' := [(0, _), (1, _), (4, _), (5, _), (16, _)]) ?_
 refine TC.cond rfl (fun c1 => ?_) (fun c1 => ?_)
 ·
  simp only [Bool.or_eq_true, decide_eq_true_eq] at c1; subst_vars; simp only [decide_eq_true_eq] at c1; omega
 ·
  refine TC.en (E' := [(0, _), (1, _), (4, _), (5, _)]) ?_
  refine TC.skip ?_
  refine AtX.then ?_
  refine TC.en (E' := [(0, _), (1, _), (4, _), (5, _)]) ?_
  refine TC.sr ?_
  refine TL.v (Val.assign rfl) ?_
  refine TL.nt ?_
  refine TC.en (E' := [(0, _), (1, _), (4, _), (5, _), (6, _)]) ?_
  refine TC.seq ?_
  refine TC.sr ?_
  refine TL.v (Val.move rfl) ?_
  refine TL.nt ?_
  refine TC.en (E' := [(0, _), (1, _), (4, _), (5, _), (6, _), (17, _)]) ?_
  refine TC.block ?_
  refine TC.loop (ι := Nat) (fun k => [(0, .slice (some ⟨b, q, none⟩) l.length c), (1, .int .i64 o), (6, .int .u64 (getTo l o k : Nat)), (17, .int .i64 (k : Nat))]) (fun _ => M) (fun k => k ≤ 8) (fun k => 8 - k) 0 ?_ (Sub.cons rfl (Sub.cons rfl (Sub.cons rfl (Sub.cons rfl (Sub.nil _))))) (fun _ h => h) ?_
  · exact Nat.zero_le _
  intro k hk
  refine TC.sr ?_
  refine TL.v (Val.lss rfl rfl) ?_
  refine TL.nt ?_
  refine TC.seq ?_
  refine TC.condP rfl (fun c2 => ?_) (fun c2 => ?_)
  ·
   refine TC.skip ?_
   refine AtX.then ?_
   refine TC.seq ?_
   refine TC.block ?_
   refine TC.sr ?_
   refine TL.v (Val.move rfl) ?_
   refine TL.v (Val.assign rfl) ?_
   refine TL.nt ?_
   have hlt : k < 8 := by omega
   have hB := getTo_lt l o k
   have hc : (l.getD (o + k) 0).toNat < 256 := UInt8.toNat_lt _
   refine TC.region ?_
   refine TL.v (Val.move rfl) ?_
   refine TL.v (Val.move rfl) ?_
   refine TL.v (Val.move rfl) ?_
   refine TL.v (Val.move rfl) ?_
   refine TL.v (Val.add rfl rfl (w_i64 (by omega) (by omega))) ?_
   refine TL.v (Val.indexAddr (i := o + k) rfl rfl sl34 sz5 (by push_cast; rfl) (by omega) rfl) ?_
   refine TL.v (Val.loadB (o + k) rfl ag5 hR (by simp) (by omega)) ?_
   refine TL.v (Val.convI rfl iu5 in24 (w_u64 (by omega) (by omega))) ?_
   refine TL.v (Val.move rfl) ?_
   refine TL.v (Val.mul rfl rfl (w_i64 (by omega) (by omega))) ?_
   refine TL.v (Val.convI rfl iu3 in37 (w_u64 (by omega) (by omega))) ?_
   refine TL.v (Val.shl rfl rfl (by omega) (shl_val hlt hc)) ?_
   refine TL.v (Val.or rfl rfl (or_add hlt hB hc)) ?_
   refine TL.v (Val.assign rfl) ?_
   refine TL.nil ?_
   refine AtX.blk ?_
   refine AtX.then ?_
   refine TC.region ?_
   refine TL.v (Val.add rfl rfl (w_i64 (by omega) (by omega))) ?_
   refine TL.v (Val.move rfl) ?_
   refine TL.nil ?_
   refine AtX.round (k + 1) ?_ ?_ (Sub.cons rfl (Sub.cons rfl (Sub.cons rfl (Sub.cons rfl (Sub.nil _))))) (fun _ h => h)
   · omega
   · omega
  ·
   refine TC.exit ?_
   refine AtX.seqX ?_
   refine AtX.seqX ?_
   refine AtX.hit ?_
   refine AtX.then ?_
   refine TC.en (E' := [(6, _)]) ?_
   refine TC.sr ?_
   refine TL.v (Val.move rfl) ?_
   refine TL.v (Val.assign rfl) ?_
   refine TL.v (Val.assign rfl) ?_
   refine TL.nt ?_
   refine TC.en (E' := [(4, _), (5, _)]) ?_
   refine TC.ret2 (fn := Tryz.f94) (fun _ _ h => h) rfl (RV.tmp rfl) (RV.tmp rfl) (fun _ h => h) ?_
   refine ⟨?_, rfl⟩
   have : k = 8 := by omega
   subst this; rfl

/-- (*quorumite/sip.Hash).Write -/
theorem Write_fn (b : Nat) (w : W4) (l : List UInt8) (A : Option Addr) (n c : Nat) (M : Hp) (hA : RdS M A (bv l)) (hn : n = l.length) (hl : l.length ≤ 1000) : FnC Tryz.prog 104 #[.pointer (some ⟨b, 0, none⟩), .slice A n c] (hobj b w none 0 0 0 :: M) (fun v M' => ∃ σ A' cp, v = .int .i64 n ∧ RdS (slH σ 5 (bv l) ++ M) A' (bv (l.drop (8 * (l.length / 8)))) ∧ M' = hobj b (absorb l (l.length / 8) w) A' (l.length - 8 * (l.length / 8)) cp l.length :: (slH σ 5 (bv l) ++ M)) := by
 subst hn
 refine FnC.intro Tryz.func104 rfl 54 rfl (by simp) (fun z => ?_)
 refine TC.en (E' := [(0, _), (1, _)]) ?_
 refine TC.sr ?_
 refine TL.v (Val.assign rfl) ?_
 refine TL.nt ?_
 refine TC.seq ?_
 refine TC.sr ?_
 refine TL.v (Val.move rfl) ?_
 refine TL.v (Val.eqlNil rfl rfl pt171) ?_
 refine TL.nt ?_
 refine TC.en (E' := [(0, _), (1, _), (4, _), (8, _)]) ?_
 refine TC.cond rfl (fun c1 => ?_) (fun c1 => ?_)
 ·
  cases c1
 ·
  refine TC.en (E' := [(0, _), (1, _), (4, _)]) ?_
  refine TC.skip ?_
  refine AtX.then ?_
  refine TC.en (E' := [(0, _), (1, _), (4, _)]) ?_
  refine TC.sr ?_
  refine TL.v (Val.move rfl) ?_
  refine TL.v (Val.nilCheck rfl) ?_
  refine TL.v (Val.fieldAddr rfl fl179_2 sz3 rfl) ?_
  refine TL.v (Val.load 0 rfl ag3 rfl rfl) ?_
  refine TL.v (Val.move rfl) ?_
  refine TL.v (Val.lenSl rfl rfl sl34) ?_
  refine TL.v (Val.add rfl rfl (r := ((l.length : Nat) : Int)) (by rw [w_i64 (by omega) (by omega)]; omega)) ?_
  refine TL.v (Val.nilCheck rfl) ?_
  refine TL.v (Val.fieldAddr rfl fl179_2 sz3 rfl) ?_
  refine TL.d (Does.store (i := 0) rfl rfl rfl sz3 rfl rfl (by first | exact Nat.le_of_ble_eq_true rfl | decide | omega) rfl rfl) ?_
  rintro _ _ ⟨rfl, rfl⟩
  refine TL.nt ?_
  refine TC.en (E' := [(0, _), (1, _), (4, _)]) ?_
  refine TC.sr ?_
  refine TL.v (Val.move rfl) ?_
  refine TL.v (Val.move rfl) ?_
  refine TL.v (Val.nilCheck rfl) ?_
  refine TL.v (Val.fieldAddr rfl fl179_1 sz34 rfl) ?_
  refine TL.v (Val.load 0 rfl ag34 rfl rfl) ?_
  refine TL.v (Val.move rfl) ?_
  refine TL.d (Does.appendS (xs := []) (ys := bv l) none (hobj b w none 0 0 l.length :: M) ro_refl rfl rfl sl34 sz5 by5 ze5 rfl (slOk_nil 1) (srcB us34 (hA.cons _)) (by simp) (bv_one _) (by omega) (by omega)) ?_
  rintro _ _ ⟨σ, rfl, hok, rfl⟩
  rw [List.nil_append] at hok ⊢
  rw [Nat.zero_add] at hok ⊢
  refine TL.heap (M' := hobj b w none 0 0 l.length :: (slH σ 5 (bv l) ++ M)) ro_mid ?_
  have hcap := hok.cap
  refine TL.v (Val.nilCheck rfl) ?_
  refine TL.v (Val.fieldAddr rfl fl179_1 sz34 rfl) ?_
  refine TL.d (Does.store (i := 0) rfl rfl rfl sz34 rfl rfl (by first | exact Nat.le_of_ble_eq_true rfl | decide | omega) rfl rfl) ?_
  rintro _ _ ⟨rfl, rfl⟩
  refine TL.nt ?_
  refine TC.en (E' := [(0, _), (1, _), (4, _)]) ?_
  refine TC.seq ?_
  refine TC.block ?_
  refine TC.loop (ι := (Nat × Option Addr)) (fun i => [(0, .pointer (some ⟨b, 0, none⟩)), (1, .slice A l.length c)]) (fun i => hobj b (absorb l i.1 w) i.2 (l.length - 8 * i.1) (slC σ - 8 * i.1) l.length :: (slH σ 5 (bv l) ++ M)) (fun i => 8 * i.1 ≤ l.length ∧ RdS (slH σ 5 (bv l) ++ M) i.2 (bv (l.drop (8 * i.1)))) (fun i => l.length - 8 * i.1) (0, slA σ) ?_ (Sub.cons rfl (Sub.cons rfl (Sub.nil _))) (fun _ h => h) ?_
  · exact ⟨by omega, slRd hok (fun x h => List.mem_append_left _ h)⟩
  rintro ⟨k, A1⟩ ⟨hk, hR⟩
  dsimp only at hk hR ⊢
  refine TC.seq ?_
  refine TC.sr ?_
  refine TL.v (Val.move rfl) ?_
  refine TL.v (Val.nilCheck rfl) ?_
  refine TL.v (Val.fieldAddr rfl fl179_1 sz34 rfl) ?_
  refine TL.v (Val.load 0 rfl ag34 rfl rfl) ?_
  refine TL.v (Val.lenSl rfl rfl sl34) ?_
  refine TL.v (Val.geq rfl rfl) ?_
  refine TL.nt ?_
  refine TC.condP rfl (fun c2 => ?_) (fun c2 => ?_)
  ·
   refine TC.skip ?_
   refine AtX.then ?_
   refine TC.block ?_
   refine TC.sr ?_
   refine TL.v (Val.move rfl) ?_
   refine TL.v (Val.nilCheck rfl) ?_
   refine TL.v (Val.fieldAddr rfl fl179_1 sz34 rfl) ?_
   refine TL.v (Val.load 0 rfl ag34 rfl rfl) ?_
   refine TL.d (Does.callF go94 rfl (sipGet_fn (l.drop (8 * k)) _ _ _ 0 _ (hR.cons _) (by rw [List.length_drop]) (by rw [List.length_drop]; omega) (by rw [List.length_drop]; omega))) ?_
   rintro _ _ ⟨rfl, rfl⟩
   rw [get8_drop]
   refine TL.v (Val.move rfl) ?_
   refine TL.v (Val.extract rfl rfl) ?_
   refine TL.v (Val.extract rfl rfl) ?_
   refine TL.v (Val.assign rfl) ?_
   refine TL.v (Val.assign rfl) ?_
   refine TL.nt ?_
   refine TC.en (E' := [(0, _), (1, _), (5, _), (27, _), (28, _), (29, _), (30, _), (31, _), (32, _), (33, _), (34, _), (35, _), (36, _), (37, _), (38, _), (39, _), (40, _)]) ?_
   refine TC.sr ?_
   refine TL.v (Val.move rfl) ?_
   refine TL.v (Val.move rfl) ?_
   refine TL.d (Does.callF go109 rfl (take_fn b (absorb l k w) _ _ _ _ _ _)) ?_
   rintro _ _ ⟨rfl, rfl⟩
   refine TL.nt ?_
   refine TC.en (E' := [(0, _), (1, _), (5, _), (27, _), (28, _), (29, _), (30, _), (31, _), (32, _), (33, _), (34, _), (35, _), (36, _), (37, _), (38, _), (39, _), (40, _), (41, _), (42, _)]) ?_
   refine TC.region ?_
   refine TL.v (Val.move rfl) ?_
   refine TL.v (Val.move rfl) ?_
   refine TL.v (Val.nilCheck rfl) ?_
   refine TL.v (Val.fieldAddr rfl fl179_1 sz34 rfl) ?_
   refine TL.v (Val.load 0 rfl ag34 rfl rfl) ?_
   refine TL.v (Val.slice (i := 8) (j := l.length - 8 * k) (q := if slC σ - 8 * k = 8 then A1 else A1.map (·.add (8 * 1))) rfl sl34 sz5 rfl rfl rfl rfl (by omega) (by omega) rfl) ?_
   refine TL.v (Val.nilCheck rfl) ?_
   refine TL.v (Val.fieldAddr rfl fl179_1 sz34 rfl) ?_
   refine TL.d (Does.store (i := 0) rfl rfl rfl sz34 rfl rfl (by first | exact Nat.le_of_ble_eq_true rfl | decide | omega) rfl rfl) ?_
   rintro _ _ ⟨rfl, rfl⟩
   refine TL.nil ?_
   refine AtX.blk ?_
   refine AtX.round (i := (k, A1)) (k + 1, if slC σ - 8 * k = 8 then A1 else A1.map (·.add (8 * 1))) ?_ ?_ (Sub.cons rfl (Sub.cons rfl (Sub.nil _))) (fun w h => by simp only [Nat.mul_add_one, Nat.sub_add_eq]; exact h)
   · exact ⟨by omega, by rw [← drop_8]; exact rdS_drop8 hR (by rw [List.length_drop]; omega) (by rw [List.length_drop]; omega)⟩
   · show l.length - 8 * (k + 1) < l.length - 8 * k; omega
  ·
   refine TC.exit ?_
   refine AtX.seqX ?_
   refine AtX.seqX ?_
   refine AtX.hit ?_
   refine AtX.then ?_
   refine TC.en (E' := [(1, _)]) ?_
   refine TC.sr ?_
   refine TL.v (Val.move rfl) ?_
   refine TL.v (Val.lenSl rfl rfl sl34) ?_
   refine TL.v (Val.assign rfl) ?_
   refine TL.nt ?_
   refine TC.en (E' := [(4, _)]) ?_
   refine TC.ret1 (fn := Tryz.f104) (fun _ _ h => h) rfl (RV.tmp rfl) (fun _ h => h) ?_
   have hk8 : k = l.length / 8 := by omega
   subst hk8
   exact ⟨σ, A1, _, rfl, hR, rfl⟩

/-- (*quorumite/sip.Hash).Sum -/
theorem HSum_fn (b : Nat) (w : W4) (d : List UInt8) (A : Option Addr) (n c : Nat) (k : Int) (M : Hp) (hA : RdS M A (bv d)) (hn : n = d.length) (hd : d.length ≤ 7) : FnC Tryz.prog 105 #[.pointer (some ⟨b, 0, none⟩)] (hobj b w A n c k :: M) (fun v M' => v = .int .u64 (endW (takeW (get8 (d ++ List.replicate (7 - d.length) 0 ++ [b8 k]) 0 : Nat) w)) ∧ hobj b w A n c k :: M = M') := by
 subst hn
 obtain ⟨E0, hE0⟩ : ∃ E0, E0 = d ++ List.replicate (7 - d.length) 0 ++ [Go.X.b8 k] := ⟨_, rfl⟩
 have hEl : E0.length = 8 := by rw [hE0]; simp; omega
 rw [← hE0]
 refine FnC.intro Tryz.func105 rfl 62 rfl (by simp) (fun z => ?_)
 refine TC.en (E' := [(0, _)]) ?_
 refine TC.sr ?_
 refine TL.v (Val.assign rfl) ?_
 refine TL.nt ?_
 refine TC.seq ?_
 refine TC.sr ?_
 refine TL.v (Val.move rfl) ?_
 refine TL.v (Val.eqlNil rfl rfl pt171) ?_
 refine TL.nt ?_
 refine TC.en (E' := [(0, _), (2, _), (8, _)]) ?_
 refine TC.cond rfl (fun c1 => ?_) (fun c1 => ?_)
 ·
  cases c1
 ·
  refine TC.en (E' := [(0, _), (2, _)]) ?_
  refine TC.skip ?_
  refine AtX.then ?_
  refine TC.en (E' := [(0, _), (2, _)]) ?_
  refine TC.sr ?_
  refine TL.v (Val.move rfl) ?_
  refine TL.v (Val.nilCheck rfl) ?_
  refine TL.v (Val.fieldAddr rfl fl179_0 sz164 rfl) ?_
  refine TL.v (Val.loadAgg 0 rfl ag164 sz164 rfl rfl rfl) ?_
  refine TL.v (Val.buildS pl179 ze179 rfl rfl) ?_
  refine TL.d (Does.alloc ze179 rfl) ?_
  rintro _ _ ⟨b1, rfl, rfl⟩
  refine TL.d (Does.store (i := 0) rfl rfl rfl sz179 rfl rfl (by first | exact Nat.le_of_ble_eq_true rfl | decide | omega) rfl rfl) ?_
  rintro _ _ ⟨rfl, rfl⟩
  refine TL.nt ?_
  refine TC.en (E' := [(0, _), (2, _), (3, _)]) ?_
  refine TC.seq ?_
  refine TC.drawLM mixed 13 ?_
  refine TA.tk 0 1 rfl rfl rfl (Val.move rfl) ?_
  refine TA.tk 1 3 rfl rfl rfl (Val.nilCheck rfl) ?_
  refine TA.tk 2 7 rfl rfl rfl (Val.fieldAddr rfl fl179_1 sz34 rfl) ?_
  refine TA.tk 3 15 rfl rfl rfl (Val.load 1 rfl ag34 rfl rfl) ?_
  refine TA.tk 5 47 rfl rfl rfl (Val.move rfl) ?_
  refine TA.tk 6 111 rfl rfl rfl (Val.nilCheck rfl) ?_
  refine TA.tk 7 239 rfl rfl rfl (Val.fieldAddr rfl fl179_1 sz34 rfl) ?_
  refine TA.tk 8 495 rfl rfl rfl (Val.load 1 rfl ag34 rfl rfl) ?_
  refine TA.tk 9 1007 rfl rfl rfl (Val.lenSl rfl rfl sl34) ?_
  refine TA.tk 10 2031 rfl rfl rfl (Val.sub rfl rfl (r := ((7 - d.length : Nat) : Int)) (by rw [w_i64 (by omega) (by omega)]; omega)) ?_
  refine TA.one 4 (by kernel_rfl) ?_
  refine TO.dz 2047 (some 18) rfl rfl rfl rfl (Does.appendS (xs := []) (ys := bv d) none (hobj b1 w none 0 0 0 :: hobj b w A d.length c k :: M) ro_refl rfl rfl sl34 sz5 by5 ze5 rfl (slOk_nil 1) (srcB us34 ((hA.cons _).cons _)) (by simp) (bv_one _) (by omega) (by omega)) ?_
  rintro _ _ ⟨σ, rfl, hok, rfl⟩
  rw [List.nil_append] at hok ⊢
  rw [Nat.zero_add d.length] at hok ⊢
  refine roK ?_
  refine TA.one 11 (by kernel_rfl) ?_
  refine TO.dz 4095 (some 25) rfl rfl rfl rfl (Does.appendS (xs := bv d) (ys := bv (List.replicate (7 - d.length) 0)) σ (hobj b1 w none 0 0 0 :: hobj b w A d.length c k :: M) ro_refl rfl rfl sl34 sz5 by5 ze5 rfl hok (srcZ ui3 (by omega)) (by simp) (bv_one _) (by omega) (by omega)) ?_
  rintro _ _ ⟨σ2, rfl, hok2, rfl⟩
  rw [← bv_append] at hok2 ⊢
  have e7 : d.length + (7 - d.length) = 7 := by omega
  rw [e7] at hok2 ⊢
  refine roK ?_
  refine TA.tk 12 8191 rfl rfl rfl (Val.assign rfl) ?_
  refine TA.done (by kernel_rfl) ?_
  refine AtX.then ?_
  refine TC.en (E' := [(0, _), (2, _), (3, _), (4, _)]) ?_
  refine TC.seq ?_
  refine TC.heap (M' := hobj b1 w none 0 0 0 :: hobj b w A d.length c k :: (slH σ2 5 (bv (d ++ List.replicate (7 - d.length) 0)) ++ M)) ro_mid2 ?_
  refine TC.region ?_
  refine TL.v (Val.move rfl) ?_
  refine TL.v (Val.move rfl) ?_
  refine TL.v (Val.nilCheck rfl) ?_
  refine TL.v (Val.fieldAddr rfl fl179_2 sz3 rfl) ?_
  refine TL.v (Val.load 1 rfl ag3 rfl rfl) ?_
  refine TL.v (Val.convI rfl iu3 in5 w_b8) ?_
  refine TL.d (Does.buildSlice sl34 sz5 ze5 (by decide) (by decide) rfl rfl rfl) ?_
  rintro _ _ ⟨b2, rfl, rfl⟩
  refine TL.d (Does.appendS (xs := bv (d ++ List.replicate (7 - d.length) 0)) (ys := bv [Go.X.b8 k]) σ2 (hobj b1 w none 0 0 0 :: hobj b w A d.length c k :: M) (ro_tail ro_dim2) rfl rfl sl34 sz5 by5 ze5 rfl hok2 (.inl ⟨_, _, rfl, ⟨5, us34⟩, .some (Rd.get (i := 0) rfl rfl)⟩) rfl (bv_one _) (by omega) (by omega)) ?_
  rintro _ _ ⟨σ3, rfl, hok3, rfl⟩
  rw [← bv_append, ← hE0] at hok3 ⊢
  refine TL.d (Does.callF go94 rfl (sipGet_fn E0 _ _ _ 0 _ (slRd hok3 (fun x h => List.mem_append_left _ h)) (by rw [hEl]) (by omega) (by omega))) ?_
  rintro _ _ ⟨rfl, rfl⟩
  generalize ((get8 E0 0 : Nat) : Int) = m
  refine TL.v (Val.move rfl) ?_
  refine TL.v (Val.extract rfl rfl) ?_
  refine TL.v (Val.extract rfl rfl) ?_
  refine TL.v (Val.assign rfl) ?_
  refine TL.v (Val.assign rfl) ?_
  refine TL.nt ?_
  refine TC.en (E' := [(2, _), (3, _), (5, _)]) ?_
  refine TC.seq ?_
  refine TC.heap (M' := hobj b1 w none 0 0 0 :: hobj b w A d.length c k :: M) (ro_app ro_refl) ?_
  refine TC.region ?_
  refine TL.v (Val.move rfl) ?_
  refine TL.d (Does.callF go109 rfl (take_fn b1 w none 0 0 0 _ _)) ?_
  rintro _ _ ⟨rfl, rfl⟩
  generalize hw2 : takeW m w = w2
  refine TL.nt ?_
  refine TC.en (E' := [(2, _), (3, _)]) ?_
  refine TC.sr ?_
  refine TL.v (Val.fieldAddr rfl fl179_0 sz164 rfl) ?_
  refine TL.v (Val.indexAddrA (i := 2) rfl rfl ar164 sz24 rfl (by first | decide | omega) rfl) ?_
  refine TL.v (Val.load 0 rfl ag24 rfl rfl) ?_
  refine TL.v (Val.xor rfl rfl rfl) ?_
  refine TL.v (Val.fieldAddr rfl fl179_0 sz164 rfl) ?_
  refine TL.v (Val.indexAddrA (i := 2) rfl rfl ar164 sz24 rfl (by first | decide | omega) rfl) ?_
  refine TL.d (Does.store (i := 0) rfl rfl rfl sz24 rfl rfl (by first | exact Nat.le_of_ble_eq_true rfl | decide | omega) rfl rfl) ?_
  rintro _ _ ⟨rfl, rfl⟩
  refine TL.nt ?_
  refine TC.en (E' := [(2, _), (3, _)]) ?_
  refine TC.sr ?_
  refine TL.d (Does.callF go110 rfl (turn_fn b1 ⟨w2.a, w2.b, xor64 w2.c 255, w2.d⟩ none 0 0 0 4 _ (by decide))) ?_
  rintro _ _ ⟨rfl, rfl⟩
  generalize hv : rounds 4 _ = v
  refine TL.nt ?_
  refine TC.en (E' := [(2, _), (3, _)]) ?_
  refine TC.sr ?_
  refine TL.v (Val.fieldAddr rfl fl179_0 sz164 rfl) ?_
  refine TL.v (Val.indexAddrA (i := 0) rfl rfl ar164 sz24 rfl (by first | decide | omega) rfl) ?_
  refine TL.v (Val.load 0 rfl ag24 rfl rfl) ?_
  refine TL.v (Val.fieldAddr rfl fl179_0 sz164 rfl) ?_
  refine TL.v (Val.indexAddrA (i := 1) rfl rfl ar164 sz24 rfl (by first | decide | omega) rfl) ?_
  refine TL.v (Val.load 0 rfl ag24 rfl rfl) ?_
  refine TL.v (Val.xor rfl rfl rfl) ?_
  refine TL.v (Val.fieldAddr rfl fl179_0 sz164 rfl) ?_
  refine TL.v (Val.indexAddrA (i := 2) rfl rfl ar164 sz24 rfl (by first | decide | omega) rfl) ?_
  refine TL.v (Val.load 0 rfl ag24 rfl rfl) ?_
  refine TL.v (Val.xor rfl rfl rfl) ?_
  refine TL.v (Val.fieldAddr rfl fl179_0 sz164 rfl) ?_
  refine TL.v (Val.indexAddrA (i := 3) rfl rfl ar164 sz24 rfl (by first | decide | omega) rfl) ?_
  refine TL.v (Val.load 0 rfl ag24 rfl rfl) ?_
  refine TL.v (Val.xor rfl rfl rfl) ?_
  refine TL.v (Val.assign rfl) ?_
  refine TL.nt ?_
  refine TC.en (E' := [(2, _)]) ?_
  refine TC.ret1 (fn := Tryz.f105) (fun _ _ h => h) rfl (RV.tmp rfl) (M' := hobj b w A d.length c k :: M) (by repeat (first | exact ro_refl | exact ro_pre | refine ro_tail ?_ | refine ro_app ?_)) ?_
  rw [endW_eq hv]; exact ⟨rfl, rfl⟩

/-- quorumite/sip.Sum -/
theorem sipSum_fn (k : K2) (l : List UInt8) (A : Option Addr) (n c : Nat) (M : Hp) (hA : RdS M A (bv l)) (hn : n = l.length) (hl : l.length ≤ 1000) : FnC Tryz.prog 96 #[.agg #[.int .u64 k.a, .int .u64 k.b], .slice A n c] M (fun v M' => v = .int .u64 (sipSum k.a k.b l) ∧ M = M') := by
 subst hn
 refine FnC.intro Tryz.func96 rfl 13 rfl (by simp) (fun z => ?_)
 refine TC.en (E' := [(0, _), (1, _)]) ?_
 refine TC.sr ?_
 refine TL.d (Does.box rfl rfl) ?_
 rintro _ _ ⟨b1, rfl, rfl⟩
 refine TL.v (Val.assign rfl) ?_
 refine TL.nt ?_
 refine TC.en (E' := [(1, _), (2, _), (4, _)]) ?_
 refine TC.sr ?_
 refine TL.v (Val.loadAgg 0 rfl ag57 sz57 rfl rfl rfl) ?_
 refine TL.d (Does.callF go103 rfl (New_fn k _)) ?_
 rintro _ _ ⟨b5, rfl, rfl⟩
 refine TL.v (Val.assign rfl) ?_
 refine TL.nt ?_
 refine TC.en (E' := [(1, _), (4, _), (5, _)]) ?_
 refine TC.sr ?_
 refine TL.v (Val.move rfl) ?_
 refine TL.v (Val.move rfl) ?_
 refine TL.d (Does.callF go104 rfl (Write_fn b5 (keyW k.a k.b) l A _ c _ (hA.cons _) rfl hl)) ?_
 rintro _ _ ⟨σ, A1, cp, rfl, hR, rfl⟩
 refine TL.nt ?_
 refine TC.en (E' := [(4, _), (5, _)]) ?_
 refine TC.sr ?_
 refine TL.v (Val.move rfl) ?_
 refine TL.d (Does.callF go105 rfl (HSum_fn b5 _ _ _ _ _ _ _ hR (by rw [List.length_drop]) (by rw [List.length_drop]; omega))) ?_
 rintro _ _ ⟨rfl, rfl⟩
 rw [lastB_eq]
 refine TL.v (Val.assign rfl) ?_
 refine TL.nt ?_
 refine TC.en (E' := [(4, _)]) ?_
 refine TC.ret1 (fn := Tryz.f96) (fun _ _ h => h) rfl (RV.tmp rfl) (M' := M) (fun w h => by have h := h.drop; exact (ro_app (ro_tail ro_refl)) w h) ?_
 exact ⟨rfl, rfl⟩

end Go.Proofs.YtphoapajlcaoeaaGreat
/- walks -/
set_option linter.unusedVariables false
set_option linter.unusedSimpArgs false
set_option maxRecDepth 100000
set_option maxHeartbeats 4000000
namespace Go.Proofs.YtphoapajlcaoeaaGreat
open Go Go.X
/-- slices.Grow[[]byte,byte] -/
theorem Grow_fn (n : Nat) (M : Hp) (hn : n ≤ 1000) : FnC Tryz.prog 107 #[.slice none 0 0, .int .i64 n] M (fun v M' => ∃ σ, v = .slice (slA σ) 0 (slC σ) ∧ slOk σ 1 0 [] ∧ M' = slH σ 5 [] ++ M) := by
 refine FnC.intro Tryz.func107 rfl 27 rfl (by simp) (fun z => ?_)
 refine TC.en (E' := [(0, _), (1, _)]) ?_
 refine TC.sr ?_
 refine TL.v (Val.assign rfl) ?_
 refine TL.nt ?_
 refine TC.seq ?_
 refine TC.sr ?_
 refine TL.v (Val.move rfl) ?_
 refine TL.v (Val.lss rfl rfl) ?_
 refine TL.nt ?_
 refine TC.en (E' := [(0, _), (1, _), (4, _), (6, _)]) ?_
 refine TC.condP rfl (fun c1 => ?_) (fun c1 => ?_)
 ·
  omega
 ·
  refine TC.en (E' := [(0, _), (1, _), (4, _)]) ?_
  refine TC.skip ?_
  refine AtX.then ?_
  refine TC.en (E' := [(0, _), (1, _), (4, _)]) ?_
  refine TC.seq ?_
  refine TC.sr ?_
  refine TL.v (Val.move rfl) ?_
  refine TL.v (Val.move rfl) ?_
  refine TL.v (Val.capSl rfl rfl sl34) ?_
  refine TL.v (Val.move rfl) ?_
  refine TL.v (Val.lenSl rfl rfl sl34) ?_
  refine TL.v (Val.sub rfl rfl (r := 0) (by decide)) ?_
  refine TL.v (Val.sub rfl rfl (r := (n : Int)) (by rw [w_i64 (by omega) (by omega)]; omega)) ?_
  refine TL.v (Val.assign rfl) ?_
  refine TL.nt ?_
  refine TC.en (E' := [(0, _), (1, _), (4, _)]) ?_
  refine TC.sr ?_
  refine TL.v (Val.move rfl) ?_
  refine TL.v (Val.gtr rfl rfl) ?_
  refine TL.nt ?_
  refine TC.en (E' := [(0, _), (1, _), (4, _), (16, _)]) ?_
  refine TC.condP rfl (fun c2 => ?_) (fun c2 => ?_)
  ·
   refine TC.en (E' := [(0, _), (1, _), (4, _)]) ?_
   refine TC.region ?_
   refine TL.v (Val.move rfl) ?_
   refine TL.v (Val.move rfl) ?_
   refine TL.v (Val.capSl rfl rfl sl34) ?_
   refine TL.v (Val.sliceTo (j := 0) rfl sl34 sz5 rfl rfl (by omega)) ?_
   refine TL.v (Val.move rfl) ?_
   refine TL.d (Does.appendS (xs := []) (ys := bv (List.replicate n 0)) none M ro_refl rfl rfl sl34 sz5 by5 ze5 rfl (slOk_nil 1) (srcZ ui3 (by omega)) (by simp) (bv_one _) (by omega) (by omega)) ?_
   rintro _ _ ⟨σ, rfl, hok, rfl⟩
   rw [List.nil_append] at hok ⊢
   rw [Nat.zero_add n] at hok ⊢
   refine TL.v (Val.move rfl) ?_
   refine TL.v (Val.lenSl rfl rfl sl34) ?_
   refine TL.v (Val.sliceTo (j := 0) rfl sl34 sz5 rfl rfl (by omega)) ?_
   refine TL.v (Val.assign rfl) ?_
   refine TL.nt ?_
   refine TC.en (E' := [(0, _), (4, _)]) ?_
   refine TC.sr ?_
   refine TL.v (Val.move rfl) ?_
   refine TL.v (Val.assign rfl) ?_
   refine TL.nt ?_
   refine TC.en (E' := [(4, _)]) ?_
   refine TC.ret1 (fn := Tryz.f107) (fun _ _ h => h) rfl (RV.tmp rfl) (fun _ h => h) ?_
   obtain ⟨b, c, sp, rfl, hc⟩ := hok.some (by omega)
   exact ⟨some (b, c, bv (List.replicate n 0) ++ sp), rfl, ⟨rfl, by simpa using hc⟩, by simp [slH]⟩
  ·
   refine TC.en (E' := [(0, _), (4, _)]) ?_
   refine TC.skip ?_
   refine AtX.then ?_
   refine TC.en (E' := [(0, _), (4, _)]) ?_
   refine TC.sr ?_
   refine TL.v (Val.move rfl) ?_
   refine TL.v (Val.assign rfl) ?_
   refine TL.nt ?_
   refine TC.en (E' := [(4, _)]) ?_
   refine TC.ret1 (fn := Tryz.f107) (fun _ _ h => h) rfl (RV.tmp rfl) (fun _ h => h) ?_
   exact ⟨none, rfl, slOk_nil 1, rfl⟩

/-- slices.Concat[[]byte,byte] -/
theorem Concat_fn (q : List Bs) (A : Option Addr) (n c : Nat) (M : Hp) (hq : RdS M A (q.map bsV)) (hn : n = q.length) (hs : ∀ x ∈ q, RdS M x.1 (bv x.2.1)) (hl : (cat q).length ≤ 1000) (hc : q.length ≤ 1000) : FnC Tryz.prog 102 #[.slice A n c] M (fun v M' => ∃ σ, v = .slice (slA σ) (cat q).length (slC σ) ∧ slOk σ 1 (cat q).length (bv (cat q)) ∧ M' = slH σ 5 (bv (cat q)) ++ M) := by
 subst hn
 refine FnC.intro Tryz.func102 rfl 36 rfl (by simp) (fun z => ?_)
 refine TC.en (E' := [(0, _)]) ?_
 refine TC.sr ?_
 refine TL.v (Val.assign rfl) ?_
 refine TL.nt ?_
 refine TC.sr ?_
 refine TL.v (Val.assign rfl) ?_
 refine TL.nt ?_
 refine TC.seq ?_
 refine TC.sr ?_
 refine TL.v (Val.move rfl) ?_
 refine TL.v (Val.lenSl rfl rfl sl175) ?_
 refine TL.v (Val.move rfl) ?_
 refine TL.nt ?_
 refine TC.block ?_
 refine TC.loop (ι := Nat) (fun k => [(0, .slice A q.length c), (3, .int .i64 ((cat (q.take k)).length : Nat)), (9, .slice A q.length c), (10, .int .i64 (q.length : Nat)), (11, .int .i64 (k : Nat))]) (fun _ => M) (fun k => k ≤ q.length) (fun k => q.length - k) 0 ?_ (Sub.cons rfl (Sub.cons rfl (Sub.cons rfl (Sub.cons rfl (Sub.cons rfl (Sub.nil _)))))) (fun _ h => h) ?_
 · exact Nat.zero_le _
 intro k hk
 refine TC.sr ?_
 refine TL.v (Val.lss rfl rfl) ?_
 refine TL.nt ?_
 refine TC.seq ?_
 refine TC.condP rfl (fun c1 => ?_) (fun c1 => ?_)
 ·
  refine TC.skip ?_
  refine AtX.then ?_
  refine TC.seq ?_
  refine TC.block ?_
  refine TC.seq ?_
  have hlt : k < q.length := by omega
  obtain ⟨x, hx⟩ : ∃ x, q[k]? = some x := ⟨_, List.getElem?_eq_getElem hlt⟩
  have hle := cat_le q (k + 1)
  have hle0 := cat_le q k
  obtain ⟨bq, oq, rfl, hR⟩ := RdS.get hq (by simp; omega)
  have hxl : (cat (q.take (k + 1))).length = (cat (q.take k)).length + x.2.1.length := by rw [catS hx, List.length_append]
  refine TC.region ?_
  refine TL.v (Val.indexAddr (i := k) (r := oq + k) rfl rfl sl175 sz34 rfl hlt (by omega)) ?_
  refine TL.v (Val.loadRd (j := k) rfl ag34 hR rfl (map_get hx)) ?_
  refine TL.v (Val.assign rfl) ?_
  refine TL.nt ?_
  refine TC.sr ?_
  refine TL.v (Val.move rfl) ?_
  refine TL.v (Val.move rfl) ?_
  refine TL.v (Val.lenSl rfl rfl sl34) ?_
  refine TL.v (Val.add rfl rfl (r := ((cat (q.take (k + 1))).length : Nat)) (by rw [w_i64 (by omega) (by omega)]; omega)) ?_
  refine TL.v (Val.assign rfl) ?_
  refine TL.nt ?_
  refine TC.sr ?_
  refine TL.v (Val.move rfl) ?_
  refine TL.v (Val.lss rfl rfl) ?_
  refine TL.nt ?_
  refine TC.condP rfl (fun c2 => ?_) (fun c2 => ?_)
  ·
   omega
  ·
   refine TC.skip ?_
   refine AtX.blk ?_
   refine AtX.then ?_
   refine TC.region ?_
   refine TL.v (Val.add rfl rfl (w_i64 (by omega) (by omega))) ?_
   refine TL.v (Val.move rfl) ?_
   refine TL.nil ?_
   refine AtX.round (k + 1) ?_ ?_ (Sub.cons rfl (Sub.cons rfl (Sub.cons rfl (Sub.cons rfl (Sub.cons rfl (Sub.nil _)))))) (fun _ h => h)
   · omega
   · omega
 ·
  refine TC.exit ?_
  refine AtX.seqX ?_
  refine AtX.seqX ?_
  refine AtX.hit ?_
  refine AtX.then ?_
  refine TC.en (E' := [(0, _), (3, _)]) ?_
  refine TC.seq ?_
  have hkl : k = q.length := by omega
  subst hkl
  rw [cat_all]
  refine TC.region ?_
  refine TL.v (Val.move rfl) ?_
  refine TL.d (Does.callF go107 rfl (Grow_fn (cat q).length _ (by omega))) ?_
  rintro _ _ ⟨σ0, rfl, hok0, rfl⟩
  refine TL.v (Val.assign rfl) ?_
  refine TL.nt ?_
  refine TC.en (E' := [(0, _), (6, _)]) ?_
  refine TC.seq ?_
  refine TC.sr ?_
  refine TL.v (Val.move rfl) ?_
  refine TL.v (Val.lenSl rfl rfl sl175) ?_
  refine TL.v (Val.move rfl) ?_
  refine TL.nt ?_
  refine TC.en (E' := [(6, _), (25, _), (26, _), (27, _)]) ?_
  refine TC.block ?_
  refine TC.loop (ι := (Nat × Sl)) (fun i => [(6, .slice (slA i.2) (cat (q.take i.1)).length (slC i.2)), (25, .slice A q.length c), (26, .int .i64 (q.length : Nat)), (27, .int .i64 (i.1 : Nat))]) (fun i => slH i.2 5 (bv (cat (q.take i.1))) ++ M) (fun i => i.1 ≤ q.length ∧ slOk i.2 1 (cat (q.take i.1)).length (bv (cat (q.take i.1)))) (fun i => q.length - i.1) (0, σ0) ?_ (Sub.cons rfl (Sub.cons rfl (Sub.cons rfl (Sub.cons rfl (Sub.nil _))))) (fun _ h => h) ?_
  · exact ⟨Nat.zero_le _, hok0⟩
  rintro ⟨k, σ⟩ ⟨hk, hok⟩
  dsimp only at hk hok ⊢
  refine TC.sr ?_
  refine TL.v (Val.lss rfl rfl) ?_
  refine TL.nt ?_
  refine TC.seq ?_
  refine TC.condP rfl (fun c3 => ?_) (fun c3 => ?_)
  ·
   refine TC.skip ?_
   refine AtX.then ?_
   refine TC.seq ?_
   refine TC.block ?_
   refine TC.seq ?_
   have hlt : k < q.length := by omega
   obtain ⟨x, hx⟩ : ∃ x, q[k]? = some x := ⟨_, List.getElem?_eq_getElem hlt⟩
   have hle := cat_le q (k + 1)
   have hle0 := cat_le q k
   obtain ⟨bq, oq, rfl, hR⟩ := RdS.get hq (by simp; omega)
   have hxl : (cat (q.take (k + 1))).length = (cat (q.take k)).length + x.2.1.length := by rw [catS hx, List.length_append]
   refine TC.region ?_
   refine TL.v (Val.indexAddr (i := k) (r := oq + k) rfl rfl sl175 sz34 rfl hlt (by omega)) ?_
   refine TL.v (Val.loadRd (j := k) rfl ag34 (hR.app _) rfl (map_get hx)) ?_
   refine TL.v (Val.assign rfl) ?_
   refine TL.nt ?_
   refine TC.region ?_
   refine TL.v (Val.move rfl) ?_
   refine TL.v (Val.move rfl) ?_
   refine TL.d (Does.appendS (xs := bv (cat (q.take k))) (ys := bv x.2.1) σ M ro_refl rfl rfl sl34 sz5 by5 ze5 rfl hok (srcB us34 ((hs x (List.mem_of_getElem? hx)).app _)) (by simp) (bv_one _) (by omega) (by omega)) ?_
   rintro _ _ ⟨σ1, rfl, hok1, rfl⟩
   refine TL.v (Val.assign rfl) ?_
   refine TL.nil ?_
   refine AtX.blk ?_
   refine AtX.then ?_
   refine TC.region ?_
   refine TL.v (Val.add rfl rfl (w_i64 (by omega) (by omega))) ?_
   refine TL.v (Val.move rfl) ?_
   refine TL.nil ?_
   refine AtX.round (i := (k, σ)) (k + 1, σ1) ?_ ?_ (Sub.cons (by rw [catS hx, List.length_append]; rfl) (Sub.cons rfl (Sub.cons rfl (Sub.cons rfl (Sub.nil _))))) (fun w h => by dsimp only; rw [catS hx, bv_append]; exact h)
   · exact ⟨by omega, by dsimp only; rw [catS hx, List.length_append, bv_append]; exact hok1⟩
   · show q.length - (k + 1) < q.length - k; omega
  ·
   refine TC.exit ?_
   refine AtX.seqX ?_
   refine AtX.seqX ?_
   refine AtX.hit ?_
   refine AtX.then ?_
   refine TC.en (E' := [(6, _)]) ?_
   refine TC.seq ?_
   have hkl : k = q.length := by omega
   subst hkl
   rw [cat_all] at hok ⊢
   refine TC.region ?_
   refine TL.v (Val.move rfl) ?_
   refine TL.v (Val.assign rfl) ?_
   refine TL.nt ?_
   refine TC.en (E' := [(2, _)]) ?_
   refine TC.ret1 (fn := Tryz.f102) (fun _ _ h => h) rfl (RV.tmp rfl) (fun _ h => h) ?_
   exact ⟨σ, rfl, hok, rfl⟩

/-- quorumite/mac.Derive -/
theorem Derive_fn (k : K2) (lab : List UInt8) (n : Int) (M : Hp) (hlab : lab.length ≤ 100) : FnC Tryz.prog 91 #[.agg #[.int .u64 k.a, .int .u64 k.b], .string (ofL lab), .int .u64 n] M (fun v M' => v = .agg #[.int .u64 (deriveK k lab n).a, .int .u64 (deriveK k lab n).b] ∧ M = M') := by
 refine FnC.intro Tryz.func91 rfl 28 rfl (by simp) (fun z => ?_)
 refine TC.en (E' := [(0, _), (1, _), (2, _)]) ?_
 refine TC.sr ?_
 refine TL.d (Does.box rfl rfl) ?_
 rintro _ _ ⟨b1, rfl, rfl⟩
 refine TL.d (Does.alloc ze57 rfl) ?_
 rintro _ _ ⟨b2, rfl, rfl⟩
 refine TL.nt ?_
 refine TC.en (E' := [(1, _), (2, _), (3, _), (6, _)]) ?_
 refine TC.sr ?_
 refine TL.d (Does.alloc ze57 rfl) ?_
 rintro _ _ ⟨b3, rfl, rfl⟩
 refine TL.nt ?_
 refine TC.en (E' := [(1, _), (2, _), (3, _), (6, _), (7, _)]) ?_
 refine TC.seq ?_
 refine TC.sr ?_
 refine TL.v (Val.move rfl) ?_
 refine TL.nt ?_
 refine TC.en (E' := [(1, _), (2, _), (3, _), (6, _), (7, _), (9, _)]) ?_
 refine TC.block ?_
 refine TC.loop (ι := Nat) (fun i => [(1, .string (ofL lab)), (2, .int .u64 n), (3, .pointer (some ⟨b1, 0, none⟩)), (6, .pointer (some ⟨b2, 0, none⟩)), (7, .pointer (some ⟨b3, 0, none⟩)), (9, .int .i64 (i : Nat))]) (fun i => (b3, .cells (dR k lab n i).toArray 57 (0, 0)) :: (b2, .cells #[.int .u64 0, .int .u64 0] 57 (0, 0)) :: ((b1, .cells #[.int .u64 k.a, .int .u64 k.b] 57 (0, 0)) :: M)) (fun i => i ≤ 2) (fun i => 2 - i) 0 ?_ (Sub.cons rfl (Sub.cons rfl (Sub.cons rfl (Sub.cons rfl (Sub.cons rfl (Sub.cons rfl (Sub.nil _))))))) (fun w h => by rw [dR_0]; exact h) ?_
 · exact Nat.zero_le _
 intro i hi
 refine TC.sr ?_
 refine TL.v (Val.lss rfl rfl) ?_
 refine TL.nt ?_
 refine TC.seq ?_
 refine TC.condP rfl (fun c1 => ?_) (fun c1 => ?_)
 ·
  refine TC.skip ?_
  refine AtX.then ?_
  refine TC.seq ?_
  refine TC.block ?_
  refine TC.sr ?_
  refine TL.v (Val.move rfl) ?_
  refine TL.v (Val.assign rfl) ?_
  refine TL.nt ?_
  have hi2 : i < 2 := by omega
  refine TC.drawL ((b1, .cells #[.int .u64 k.a, .int .u64 k.b] 57 (0, 0)) :: M) mixed 15 ?_
  refine TA.tk 0 1 rfl rfl rfl (Val.move rfl) ?_
  refine TA.tk 1 3 rfl rfl rfl (Val.loadAgg 0 rfl ag57 sz57 rfl rfl rfl) ?_
  refine TA.tk 2 7 rfl rfl rfl (Val.move rfl) ?_
  refine TA.tk 4 23 rfl rfl rfl (Val.move rfl) ?_
  refine TA.tk 5 55 rfl rfl rfl (Val.add rfl rfl (r := ((i + 1 : Nat) : Int)) (by rw [w_i64 (by omega) (by omega)]; push_cast; rfl)) ?_
  refine TA.tk 6 119 rfl rfl rfl (Val.convI rfl iu3 in5 w_b8) ?_
  refine TA.tk 8 375 rfl rfl rfl (Val.move rfl) ?_
  refine TA.three 3 7 9 (by kernel_rfl) ?_ ?_ ?_
  ·
   refine TO.dz 383 (some 15) rfl rfl rfl rfl (Does.s2bL rfl un9 us34 ui5) ?_
   rintro _ _ ⟨bL, cL, spL, fzL, rfl, rfl⟩
   refine roK ?_
   refine TA.two 7 9 (by kernel_rfl) ?_ ?_
   ·
    refine TO.dz 511 (some 19) rfl rfl rfl rfl (Does.buildSlice sl34 sz5 ze5 (by decide) (by decide) rfl rfl rfl) ?_
    rintro _ _ ⟨bI, rfl, rfl⟩
    refine roK ?_
    refine TA.one 9 (by kernel_rfl) ?_
    refine TO.dz 1023 (some 21) rfl rfl rfl rfl (Does.callF go101 rfl (sipPut_fn _ _)) ?_
    rintro _ _ ⟨bP, cP, spP, rfl, hcP, rfl⟩
    refine roK ?_
    refine TA.one 10 (by kernel_rfl) ?_
    refine TO.dz 2047 (some 22) rfl rfl rfl rfl (Does.buildSlice sl175 sz34 ze34 (by decide) (by decide) rfl rfl rfl) ?_
    rintro _ _ ⟨bC, rfl, rfl⟩
    refine roK ?_
    refine TA.one 11 (by kernel_rfl) ?_
    refine TO.dz 4095 (some 23) rfl rfl rfl rfl (Does.callF go102 rfl (Concat_fn [(some ⟨bL, 0, none⟩, lab, cL), (some ⟨bI, 0, none⟩, [Go.X.b8 (i + 1 : Nat)], 1), (some ⟨bP, 0, none⟩, put8 n, cP)] _ 3 3 _ (.some (Rd.get (i := 0) rfl rfl)) rfl (by intro x hx; simp only [List.mem_cons, List.not_mem_nil, or_false] at hx; rcases hx with rfl | rfl | rfl <;> first | exact .some (Rd.get (i := 1) rfl (by first | rfl | simp [bv])) | exact .some (Rd.get (i := 2) rfl (by first | rfl | simp [bv])) | exact .some (Rd.get (i := 3) rfl (by first | rfl | simp [bv]))) (by rw [cat3]; simp; omega) (by simp))) ?_
    rintro _ _ ⟨σ, rfl, hok, rfl⟩
    rw [cat3] at hok ⊢
    refine roK ?_
    refine TA.one 12 (by kernel_rfl) ?_
    refine TO.dz 8191 (some 24) rfl rfl rfl rfl (Does.callF go96 rfl (sipSum_fn k (lab ++ [Go.X.b8 (i + 1 : Nat)] ++ put8 n) _ _ _ _ (slRd hok (fun x h => List.mem_append_left _ h)) rfl (by simp; omega))) ?_
    rintro _ _ ⟨rfl, rfl⟩
    refine roK ?_
    refine TA.heap (M' := (b3, .cells (dR k lab n i).toArray 57 (0, 0)) :: (b2, .cells #[.int .u64 0, .int .u64 0] 57 (0, 0)) :: ((b1, .cells #[.int .u64 k.a, .int .u64 k.b] 57 (0, 0)) :: M)) (by repeat (first | exact ro_refl | exact ro_pre | refine ro_tail ?_ | refine ro_app ?_)) ?_
    refine TA.tk 13 16383 rfl rfl rfl (Val.indexAddrA (i := i) (r := i) rfl rfl ar57 sz24 rfl hi2 (by omega)) ?_
    refine TA.one 14 (by kernel_rfl) ?_
    refine TO.dz 32767 none rfl rfl rfl rfl (Does.store (i := 0) rfl rfl rfl sz24 rfl rfl (by simp [dR]; omega) (dR_splice (i := i) hi2) rfl) ?_
    rintro _ _ ⟨rfl, rfl⟩
    refine roK ?_
    refine TA.done (by kernel_rfl) ?_
    refine AtX.blk ?_
    refine AtX.then ?_
    refine TC.region ?_
    refine TL.v (Val.add rfl rfl (w_i64 (by omega) (by omega))) ?_
    refine TL.v (Val.move rfl) ?_
    refine TL.nil ?_
    refine AtX.round (i + 1) ?_ ?_ (Sub.cons rfl (Sub.cons rfl (Sub.cons rfl (Sub.cons rfl (Sub.cons rfl (Sub.cons rfl (Sub.nil _))))))) (fun _ h => h)
    · omega
    · omega
   ·
    refine TO.dz 895 (some 21) rfl rfl rfl rfl (Does.callF go101 rfl (sipPut_fn _ _)) ?_
    rintro _ _ ⟨bP, cP, spP, rfl, hcP, rfl⟩
    refine roK ?_
    refine TA.one 7 (by kernel_rfl) ?_
    refine TO.dz 1023 (some 19) rfl rfl rfl rfl (Does.buildSlice sl34 sz5 ze5 (by decide) (by decide) rfl rfl rfl) ?_
    rintro _ _ ⟨bI, rfl, rfl⟩
    refine roK ?_
    refine TA.one 10 (by kernel_rfl) ?_
    refine TO.dz 2047 (some 22) rfl rfl rfl rfl (Does.buildSlice sl175 sz34 ze34 (by decide) (by decide) rfl rfl rfl) ?_
    rintro _ _ ⟨bC, rfl, rfl⟩
    refine roK ?_
    refine TA.one 11 (by kernel_rfl) ?_
    refine TO.dz 4095 (some 23) rfl rfl rfl rfl (Does.callF go102 rfl (Concat_fn [(some ⟨bL, 0, none⟩, lab, cL), (some ⟨bI, 0, none⟩, [Go.X.b8 (i + 1 : Nat)], 1), (some ⟨bP, 0, none⟩, put8 n, cP)] _ 3 3 _ (.some (Rd.get (i := 0) rfl rfl)) rfl (by intro x hx; simp only [List.mem_cons, List.not_mem_nil, or_false] at hx; rcases hx with rfl | rfl | rfl <;> first | exact .some (Rd.get (i := 1) rfl (by first | rfl | simp [bv])) | exact .some (Rd.get (i := 2) rfl (by first | rfl | simp [bv])) | exact .some (Rd.get (i := 3) rfl (by first | rfl | simp [bv]))) (by rw [cat3]; simp; omega) (by simp))) ?_
    rintro _ _ ⟨σ, rfl, hok, rfl⟩
    rw [cat3] at hok ⊢
    refine roK ?_
    refine TA.one 12 (by kernel_rfl) ?_
    refine TO.dz 8191 (some 24) rfl rfl rfl rfl (Does.callF go96 rfl (sipSum_fn k (lab ++ [Go.X.b8 (i + 1 : Nat)] ++ put8 n) _ _ _ _ (slRd hok (fun x h => List.mem_append_left _ h)) rfl (by simp; omega))) ?_
    rintro _ _ ⟨rfl, rfl⟩
    refine roK ?_
    refine TA.heap (M' := (b3, .cells (dR k lab n i).toArray 57 (0, 0)) :: (b2, .cells #[.int .u64 0, .int .u64 0] 57 (0, 0)) :: ((b1, .cells #[.int .u64 k.a, .int .u64 k.b] 57 (0, 0)) :: M)) (by repeat (first | exact ro_refl | exact ro_pre | refine ro_tail ?_ | refine ro_app ?_)) ?_
    refine TA.tk 13 16383 rfl rfl rfl (Val.indexAddrA (i := i) (r := i) rfl rfl ar57 sz24 rfl hi2 (by omega)) ?_
    refine TA.one 14 (by kernel_rfl) ?_
    refine TO.dz 32767 none rfl rfl rfl rfl (Does.store (i := 0) rfl rfl rfl sz24 rfl rfl (by simp [dR]; omega) (dR_splice (i := i) hi2) rfl) ?_
    rintro _ _ ⟨rfl, rfl⟩
    refine roK ?_
    refine TA.done (by kernel_rfl) ?_
    refine AtX.blk ?_
    refine AtX.then ?_
    refine TC.region ?_
    refine TL.v (Val.add rfl rfl (w_i64 (by omega) (by omega))) ?_
    refine TL.v (Val.move rfl) ?_
    refine TL.nil ?_
    refine AtX.round (i + 1) ?_ ?_ (Sub.cons rfl (Sub.cons rfl (Sub.cons rfl (Sub.cons rfl (Sub.cons rfl (Sub.cons rfl (Sub.nil _))))))) (fun _ h => h)
    · omega
    · omega
  ·
   refine TO.dz 503 (some 19) rfl rfl rfl rfl (Does.buildSlice sl34 sz5 ze5 (by decide) (by decide) rfl rfl rfl) ?_
   rintro _ _ ⟨bI, rfl, rfl⟩
   refine roK ?_
   refine TA.two 3 9 (by kernel_rfl) ?_ ?_
   ·
    refine TO.dz 511 (some 15) rfl rfl rfl rfl (Does.s2bL rfl un9 us34 ui5) ?_
    rintro _ _ ⟨bL, cL, spL, fzL, rfl, rfl⟩
    refine roK ?_
    refine TA.one 9 (by kernel_rfl) ?_
    refine TO.dz 1023 (some 21) rfl rfl rfl rfl (Does.callF go101 rfl (sipPut_fn _ _)) ?_
    rintro _ _ ⟨bP, cP, spP, rfl, hcP, rfl⟩
    refine roK ?_
    refine TA.one 10 (by kernel_rfl) ?_
    refine TO.dz 2047 (some 22) rfl rfl rfl rfl (Does.buildSlice sl175 sz34 ze34 (by decide) (by decide) rfl rfl rfl) ?_
    rintro _ _ ⟨bC, rfl, rfl⟩
    refine roK ?_
    refine TA.one 11 (by kernel_rfl) ?_
    refine TO.dz 4095 (some 23) rfl rfl rfl rfl (Does.callF go102 rfl (Concat_fn [(some ⟨bL, 0, none⟩, lab, cL), (some ⟨bI, 0, none⟩, [Go.X.b8 (i + 1 : Nat)], 1), (some ⟨bP, 0, none⟩, put8 n, cP)] _ 3 3 _ (.some (Rd.get (i := 0) rfl rfl)) rfl (by intro x hx; simp only [List.mem_cons, List.not_mem_nil, or_false] at hx; rcases hx with rfl | rfl | rfl <;> first | exact .some (Rd.get (i := 1) rfl (by first | rfl | simp [bv])) | exact .some (Rd.get (i := 2) rfl (by first | rfl | simp [bv])) | exact .some (Rd.get (i := 3) rfl (by first | rfl | simp [bv]))) (by rw [cat3]; simp; omega) (by simp))) ?_
    rintro _ _ ⟨σ, rfl, hok, rfl⟩
    rw [cat3] at hok ⊢
    refine roK ?_
    refine TA.one 12 (by kernel_rfl) ?_
    refine TO.dz 8191 (some 24) rfl rfl rfl rfl (Does.callF go96 rfl (sipSum_fn k (lab ++ [Go.X.b8 (i + 1 : Nat)] ++ put8 n) _ _ _ _ (slRd hok (fun x h => List.mem_append_left _ h)) rfl (by simp; omega))) ?_
    rintro _ _ ⟨rfl, rfl⟩
    refine roK ?_
    refine TA.heap (M' := (b3, .cells (dR k lab n i).toArray 57 (0, 0)) :: (b2, .cells #[.int .u64 0, .int .u64 0] 57 (0, 0)) :: ((b1, .cells #[.int .u64 k.a, .int .u64 k.b] 57 (0, 0)) :: M)) (by repeat (first | exact ro_refl | exact ro_pre | refine ro_tail ?_ | refine ro_app ?_)) ?_
    refine TA.tk 13 16383 rfl rfl rfl (Val.indexAddrA (i := i) (r := i) rfl rfl ar57 sz24 rfl hi2 (by omega)) ?_
    refine TA.one 14 (by kernel_rfl) ?_
    refine TO.dz 32767 none rfl rfl rfl rfl (Does.store (i := 0) rfl rfl rfl sz24 rfl rfl (by simp [dR]; omega) (dR_splice (i := i) hi2) rfl) ?_
    rintro _ _ ⟨rfl, rfl⟩
    refine roK ?_
    refine TA.done (by kernel_rfl) ?_
    refine AtX.blk ?_
    refine AtX.then ?_
    refine TC.region ?_
    refine TL.v (Val.add rfl rfl (w_i64 (by omega) (by omega))) ?_
    refine TL.v (Val.move rfl) ?_
    refine TL.nil ?_
    refine AtX.round (i + 1) ?_ ?_ (Sub.cons rfl (Sub.cons rfl (Sub.cons rfl (Sub.cons rfl (Sub.cons rfl (Sub.cons rfl (Sub.nil _))))))) (fun _ h => h)
    · omega
    · omega
   ·
    refine TO.dz 1015 (some 21) rfl rfl rfl rfl (Does.callF go101 rfl (sipPut_fn _ _)) ?_
    rintro _ _ ⟨bP, cP, spP, rfl, hcP, rfl⟩
    refine roK ?_
    refine TA.one 3 (by kernel_rfl) ?_
    refine TO.dz 1023 (some 15) rfl rfl rfl rfl (Does.s2bL rfl un9 us34 ui5) ?_
    rintro _ _ ⟨bL, cL, spL, fzL, rfl, rfl⟩
    refine roK ?_
    refine TA.one 10 (by kernel_rfl) ?_
    refine TO.dz 2047 (some 22) rfl rfl rfl rfl (Does.buildSlice sl175 sz34 ze34 (by decide) (by decide) rfl rfl rfl) ?_
    rintro _ _ ⟨bC, rfl, rfl⟩
    refine roK ?_
    refine TA.one 11 (by kernel_rfl) ?_
    refine TO.dz 4095 (some 23) rfl rfl rfl rfl (Does.callF go102 rfl (Concat_fn [(some ⟨bL, 0, none⟩, lab, cL), (some ⟨bI, 0, none⟩, [Go.X.b8 (i + 1 : Nat)], 1), (some ⟨bP, 0, none⟩, put8 n, cP)] _ 3 3 _ (.some (Rd.get (i := 0) rfl rfl)) rfl (by intro x hx; simp only [List.mem_cons, List.not_mem_nil, or_false] at hx; rcases hx with rfl | rfl | rfl <;> first | exact .some (Rd.get (i := 1) rfl (by first | rfl | simp [bv])) | exact .some (Rd.get (i := 2) rfl (by first | rfl | simp [bv])) | exact .some (Rd.get (i := 3) rfl (by first | rfl | simp [bv]))) (by rw [cat3]; simp; omega) (by simp))) ?_
    rintro _ _ ⟨σ, rfl, hok, rfl⟩
    rw [cat3] at hok ⊢
    refine roK ?_
    refine TA.one 12 (by kernel_rfl) ?_
    refine TO.dz 8191 (some 24) rfl rfl rfl rfl (Does.callF go96 rfl (sipSum_fn k (lab ++ [Go.X.b8 (i + 1 : Nat)] ++ put8 n) _ _ _ _ (slRd hok (fun x h => List.mem_append_left _ h)) rfl (by simp; omega))) ?_
    rintro _ _ ⟨rfl, rfl⟩
    refine roK ?_
    refine TA.heap (M' := (b3, .cells (dR k lab n i).toArray 57 (0, 0)) :: (b2, .cells #[.int .u64 0, .int .u64 0] 57 (0, 0)) :: ((b1, .cells #[.int .u64 k.a, .int .u64 k.b] 57 (0, 0)) :: M)) (by repeat (first | exact ro_refl | exact ro_pre | refine ro_tail ?_ | refine ro_app ?_)) ?_
    refine TA.tk 13 16383 rfl rfl rfl (Val.indexAddrA (i := i) (r := i) rfl rfl ar57 sz24 rfl hi2 (by omega)) ?_
    refine TA.one 14 (by kernel_rfl) ?_
    refine TO.dz 32767 none rfl rfl rfl rfl (Does.store (i := 0) rfl rfl rfl sz24 rfl rfl (by simp [dR]; omega) (dR_splice (i := i) hi2) rfl) ?_
    rintro _ _ ⟨rfl, rfl⟩
    refine roK ?_
    refine TA.done (by kernel_rfl) ?_
    refine AtX.blk ?_
    refine AtX.then ?_
    refine TC.region ?_
    refine TL.v (Val.add rfl rfl (w_i64 (by omega) (by omega))) ?_
    refine TL.v (Val.move rfl) ?_
    refine TL.nil ?_
    refine AtX.round (i + 1) ?_ ?_ (Sub.cons rfl (Sub.cons rfl (Sub.cons rfl (Sub.cons rfl (Sub.cons rfl (Sub.cons rfl (Sub.nil _))))))) (fun _ h => h)
    · omega
    · omega
  ·
   refine TO.dz 887 (some 21) rfl rfl rfl rfl (Does.callF go101 rfl (sipPut_fn _ _)) ?_
   rintro _ _ ⟨bP, cP, spP, rfl, hcP, rfl⟩
   refine roK ?_
   refine TA.two 3 7 (by kernel_rfl) ?_ ?_
   ·
    refine TO.dz 895 (some 15) rfl rfl rfl rfl (Does.s2bL rfl un9 us34 ui5) ?_
    rintro _ _ ⟨bL, cL, spL, fzL, rfl, rfl⟩
    refine roK ?_
    refine TA.one 7 (by kernel_rfl) ?_
    refine TO.dz 1023 (some 19) rfl rfl rfl rfl (Does.buildSlice sl34 sz5 ze5 (by decide) (by decide) rfl rfl rfl) ?_
    rintro _ _ ⟨bI, rfl, rfl⟩
    refine roK ?_
    refine TA.one 10 (by kernel_rfl) ?_
    refine TO.dz 2047 (some 22) rfl rfl rfl rfl (Does.buildSlice sl175 sz34 ze34 (by decide) (by decide) rfl rfl rfl) ?_
    rintro _ _ ⟨bC, rfl, rfl⟩
    refine roK ?_
    refine TA.one 11 (by kernel_rfl) ?_
    refine TO.dz 4095 (some 23) rfl rfl rfl rfl (Does.callF go102 rfl (Concat_fn [(some ⟨bL, 0, none⟩, lab, cL), (some ⟨bI, 0, none⟩, [Go.X.b8 (i + 1 : Nat)], 1), (some ⟨bP, 0, none⟩, put8 n, cP)] _ 3 3 _ (.some (Rd.get (i := 0) rfl rfl)) rfl (by intro x hx; simp only [List.mem_cons, List.not_mem_nil, or_false] at hx; rcases hx with rfl | rfl | rfl <;> first | exact .some (Rd.get (i := 1) rfl (by first | rfl | simp [bv])) | exact .some (Rd.get (i := 2) rfl (by first | rfl | simp [bv])) | exact .some (Rd.get (i := 3) rfl (by first | rfl | simp [bv]))) (by rw [cat3]; simp; omega) (by simp))) ?_
    rintro _ _ ⟨σ, rfl, hok, rfl⟩
    rw [cat3] at hok ⊢
    refine roK ?_
    refine TA.one 12 (by kernel_rfl) ?_
    refine TO.dz 8191 (some 24) rfl rfl rfl rfl (Does.callF go96 rfl (sipSum_fn k (lab ++ [Go.X.b8 (i + 1 : Nat)] ++ put8 n) _ _ _ _ (slRd hok (fun x h => List.mem_append_left _ h)) rfl (by simp; omega))) ?_
    rintro _ _ ⟨rfl, rfl⟩
    refine roK ?_
    refine TA.heap (M' := (b3, .cells (dR k lab n i).toArray 57 (0, 0)) :: (b2, .cells #[.int .u64 0, .int .u64 0] 57 (0, 0)) :: ((b1, .cells #[.int .u64 k.a, .int .u64 k.b] 57 (0, 0)) :: M)) (by repeat (first | exact ro_refl | exact ro_pre | refine ro_tail ?_ | refine ro_app ?_)) ?_
    refine TA.tk 13 16383 rfl rfl rfl (Val.indexAddrA (i := i) (r := i) rfl rfl ar57 sz24 rfl hi2 (by omega)) ?_
    refine TA.one 14 (by kernel_rfl) ?_
    refine TO.dz 32767 none rfl rfl rfl rfl (Does.store (i := 0) rfl rfl rfl sz24 rfl rfl (by simp [dR]; omega) (dR_splice (i := i) hi2) rfl) ?_
    rintro _ _ ⟨rfl, rfl⟩
    refine roK ?_
    refine TA.done (by kernel_rfl) ?_
    refine AtX.blk ?_
    refine AtX.then ?_
    refine TC.region ?_
    refine TL.v (Val.add rfl rfl (w_i64 (by omega) (by omega))) ?_
    refine TL.v (Val.move rfl) ?_
    refine TL.nil ?_
    refine AtX.round (i + 1) ?_ ?_ (Sub.cons rfl (Sub.cons rfl (Sub.cons rfl (Sub.cons rfl (Sub.cons rfl (Sub.cons rfl (Sub.nil _))))))) (fun _ h => h)
    · omega
    · omega
   ·
    refine TO.dz 1015 (some 19) rfl rfl rfl rfl (Does.buildSlice sl34 sz5 ze5 (by decide) (by decide) rfl rfl rfl) ?_
    rintro _ _ ⟨bI, rfl, rfl⟩
    refine roK ?_
    refine TA.one 3 (by kernel_rfl) ?_
    refine TO.dz 1023 (some 15) rfl rfl rfl rfl (Does.s2bL rfl un9 us34 ui5) ?_
    rintro _ _ ⟨bL, cL, spL, fzL, rfl, rfl⟩
    refine roK ?_
    refine TA.one 10 (by kernel_rfl) ?_
    refine TO.dz 2047 (some 22) rfl rfl rfl rfl (Does.buildSlice sl175 sz34 ze34 (by decide) (by decide) rfl rfl rfl) ?_
    rintro _ _ ⟨bC, rfl, rfl⟩
    refine roK ?_
    refine TA.one 11 (by kernel_rfl) ?_
    refine TO.dz 4095 (some 23) rfl rfl rfl rfl (Does.callF go102 rfl (Concat_fn [(some ⟨bL, 0, none⟩, lab, cL), (some ⟨bI, 0, none⟩, [Go.X.b8 (i + 1 : Nat)], 1), (some ⟨bP, 0, none⟩, put8 n, cP)] _ 3 3 _ (.some (Rd.get (i := 0) rfl rfl)) rfl (by intro x hx; simp only [List.mem_cons, List.not_mem_nil, or_false] at hx; rcases hx with rfl | rfl | rfl <;> first | exact .some (Rd.get (i := 1) rfl (by first | rfl | simp [bv])) | exact .some (Rd.get (i := 2) rfl (by first | rfl | simp [bv])) | exact .some (Rd.get (i := 3) rfl (by first | rfl | simp [bv]))) (by rw [cat3]; simp; omega) (by simp))) ?_
    rintro _ _ ⟨σ, rfl, hok, rfl⟩
    rw [cat3] at hok ⊢
    refine roK ?_
    refine TA.one 12 (by kernel_rfl) ?_
    refine TO.dz 8191 (some 24) rfl rfl rfl rfl (Does.callF go96 rfl (sipSum_fn k (lab ++ [Go.X.b8 (i + 1 : Nat)] ++ put8 n) _ _ _ _ (slRd hok (fun x h => List.mem_append_left _ h)) rfl (by simp; omega))) ?_
    rintro _ _ ⟨rfl, rfl⟩
    refine roK ?_
    refine TA.heap (M' := (b3, .cells (dR k lab n i).toArray 57 (0, 0)) :: (b2, .cells #[.int .u64 0, .int .u64 0] 57 (0, 0)) :: ((b1, .cells #[.int .u64 k.a, .int .u64 k.b] 57 (0, 0)) :: M)) (by repeat (first | exact ro_refl | exact ro_pre | refine ro_tail ?_ | refine ro_app ?_)) ?_
    refine TA.tk 13 16383 rfl rfl rfl (Val.indexAddrA (i := i) (r := i) rfl rfl ar57 sz24 rfl hi2 (by omega)) ?_
    refine TA.one 14 (by kernel_rfl) ?_
    refine TO.dz 32767 none rfl rfl rfl rfl (Does.store (i := 0) rfl rfl rfl sz24 rfl rfl (by simp [dR]; omega) (dR_splice (i := i) hi2) rfl) ?_
    rintro _ _ ⟨rfl, rfl⟩
    refine roK ?_
    refine TA.done (by kernel_rfl) ?_
    refine AtX.blk ?_
    refine AtX.then ?_
    refine TC.region ?_
    refine TL.v (Val.add rfl rfl (w_i64 (by omega) (by omega))) ?_
    refine TL.v (Val.move rfl) ?_
    refine TL.nil ?_
    refine AtX.round (i + 1) ?_ ?_ (Sub.cons rfl (Sub.cons rfl (Sub.cons rfl (Sub.cons rfl (Sub.cons rfl (Sub.cons rfl (Sub.nil _))))))) (fun _ h => h)
    · omega
    · omega
 ·
  refine TC.exit ?_
  refine AtX.seqX ?_
  refine AtX.seqX ?_
  refine AtX.hit ?_
  refine AtX.then ?_
  refine TC.en (E' := [(6, _), (7, _)]) ?_
  refine TC.seq ?_
  have h2 : i = 2 := by omega
  subst h2
  rw [dR_2]
  refine TC.region ?_
  refine TL.v (Val.loadAgg 0 rfl ag57 sz57 rfl rfl rfl) ?_
  refine TL.d (Does.store (i := 1) rfl rfl rfl sz57 rfl rfl (by first | exact Nat.le_of_ble_eq_true rfl | decide | omega) rfl rfl) ?_
  rintro _ _ ⟨rfl, rfl⟩
  refine TL.nt ?_
  refine TC.en (E' := [(6, _)]) ?_
  refine TC.ret1 (fn := Tryz.f91) (fun _ _ h => h) rfl (RV.agg (i := 1) rfl ag57 sz57 rfl rfl rfl) (M' := M) (by repeat (first | exact ro_refl | exact ro_pre | refine ro_tail ?_ | refine ro_app ?_)) ?_
  exact ⟨rfl, rfl⟩

end Go.Proofs.YtphoapajlcaoeaaGreat
/- walks -/
set_option linter.unusedVariables false
set_option linter.unusedSimpArgs false
set_option maxRecDepth 100000
set_option maxHeartbeats 4000000
namespace Go.Proofs.YtphoapajlcaoeaaGreat
open Go Go.X
/-- quorumite/mac.Root -/
theorem Root_fn (s : Int) (M : Hp) : FnC Tryz.prog 92 #[.int .u64 s] M (fun v M' => v = .agg #[.int .u64 (rootK s).a, .int .u64 (rootK s).b] ∧ M = M') := by
 refine FnC.intro Tryz.func92 rfl 8 rfl (by simp) (fun z => ?_)
 refine TC.en (E' := [(0, _)]) ?_
 refine TC.sr ?_
 refine TL.d (Does.alloc ze57 rfl) ?_
 rintro _ _ ⟨b1, rfl, rfl⟩
 refine TL.nt ?_
 refine TC.sr ?_
 refine TL.v (Val.move rfl) ?_
 refine TL.v (Val.move rfl) ?_
 refine TL.v (Val.add rfl rfl (r := add64 s 1) rfl) ?_
 refine TL.v (Val.buildA ar57 sz24 ze57 rfl rfl) ?_
 refine TL.d (Does.callF go91 rfl (Derive_fn ⟨s, add64 s 1⟩ [114, 111, 111, 116] 0 _ (by decide))) ?_
 rintro _ _ ⟨rfl, rfl⟩
 refine TL.d (Does.store (i := 0) rfl rfl rfl sz57 rfl rfl (by first | exact Nat.le_of_ble_eq_true rfl | decide | omega) rfl rfl) ?_
 rintro _ _ ⟨rfl, rfl⟩
 refine TL.nt ?_
 refine TC.r1 (M' := M) (fn := Tryz.f92) (fun _ _ h => h) rfl (RV.agg (i := 0) rfl ag57 sz57 rfl rfl rfl) ?_
 exact ⟨rfl, rfl⟩

/-- quorumite/mac.Of -/
theorem Of_fn (s who gen : Int) (M : Hp) : FnC Tryz.prog 67 #[.int .u64 s, .int .i64 who, .int .i64 gen] M (fun v M' => v = .agg #[.int .u64 (macKey s who gen).a, .int .u64 (macKey s who gen).b] ∧ M = M') := by
 refine FnC.intro Tryz.func67 rfl 15 rfl (by simp) (fun z => ?_)
 refine TC.en (E' := [(0, _), (1, _), (2, _)]) ?_
 refine TC.sr ?_
 refine TL.d (Does.alloc ze57 rfl) ?_
 rintro _ _ ⟨b1, rfl, rfl⟩
 refine TL.nt ?_
 refine TC.sr ?_
 refine TL.v (Val.move rfl) ?_
 refine TL.d (Does.callF go92 rfl (Root_fn s _)) ?_
 rintro _ _ ⟨rfl, rfl⟩
 refine TL.v (Val.move rfl) ?_
 refine TL.v (Val.convI rfl iu3 in24 rfl) ?_
 refine TL.d (Does.callF go91 rfl (Derive_fn (rootK s) [119, 104, 111] (IntKind.u64.wrap who) _ (by decide))) ?_
 rintro _ _ ⟨rfl, rfl⟩
 refine TL.v (Val.move rfl) ?_
 refine TL.v (Val.convI rfl iu3 in24 rfl) ?_
 refine TL.d (Does.callF go91 rfl (Derive_fn (deriveK (rootK s) [119, 104, 111] (IntKind.u64.wrap who)) [103, 101, 110] (IntKind.u64.wrap gen) _ (by decide))) ?_
 rintro _ _ ⟨rfl, rfl⟩
 refine TL.d (Does.store (i := 0) rfl rfl rfl sz57 rfl rfl (by first | exact Nat.le_of_ble_eq_true rfl | decide | omega) rfl rfl) ?_
 rintro _ _ ⟨rfl, rfl⟩
 refine TL.nt ?_
 refine TC.en (E' := [(6, _)]) ?_
 refine TC.r1 (M' := M) (fn := Tryz.f67) (fun _ _ h => h) rfl (RV.agg (i := 0) rfl ag57 sz57 rfl rfl rfl) ?_
 exact ⟨rfl, rfl⟩

/-- quorumite/mac.Tag -/
theorem Tag_fn (k : K2) (l : List UInt8) (A : Option Addr) (n c : Nat) (M : Hp) (hA : RdS M A (bv l)) (hn : n = l.length) (hl : l.length ≤ 1000) : FnC Tryz.prog 72 #[.agg #[.int .u64 k.a, .int .u64 k.b], .slice A n c] M (fun v M' => v = .agg #[.int .u64 (tagOf k l).a, .int .u64 (tagOf k l).b] ∧ M = M') := by
 subst hn
 refine FnC.intro Tryz.func72 rfl 17 rfl (by simp) (fun z => ?_)
 refine TC.en (E' := [(0, _), (1, _)]) ?_
 refine TC.sr ?_
 refine TL.d (Does.box rfl rfl) ?_
 rintro _ _ ⟨b1, rfl, rfl⟩
 refine TL.d (Does.alloc ze98 rfl) ?_
 rintro _ _ ⟨b2, rfl, rfl⟩
 refine TL.nt ?_
 refine TC.seq ?_
 refine TC.drawL ((b1, .cells #[.int .u64 k.a, .int .u64 k.b] 57 (0, 0)) :: M) mixed 13 ?_
 refine TA.tk 0 1 rfl rfl rfl (Val.loadAgg 0 rfl ag57 sz57 rfl rfl rfl) ?_
 refine TA.tk 1 3 rfl rfl rfl (Val.move rfl) ?_
 refine TA.tk 3 11 rfl rfl rfl (Val.indexAddrA (i := 1) rfl rfl ar57 sz24 rfl (by first | decide | omega) rfl) ?_
 refine TA.tk 4 27 rfl rfl rfl (Val.load 0 rfl ag24 rfl rfl) ?_
 refine TA.tk 5 59 rfl rfl rfl (Val.indexAddrA (i := 0) rfl rfl ar57 sz24 rfl (by first | decide | omega) rfl) ?_
 refine TA.tk 6 123 rfl rfl rfl (Val.load 0 rfl ag24 rfl rfl) ?_
 refine TA.tk 7 251 rfl rfl rfl (Val.xorU rfl (r := not64 k.a) rfl) ?_
 refine TA.tk 8 507 rfl rfl rfl (Val.buildA ar57 sz24 ze57 rfl rfl) ?_
 refine TA.tk 9 1019 rfl rfl rfl (Val.move rfl) ?_
 refine TA.one 2 (by kernel_rfl) ?_
 refine TO.dz 1023 (some 7) rfl rfl rfl rfl (Does.callF go96 rfl (sipSum_fn k l _ _ _ _ ((hA.cons _).cons _) rfl hl)) ?_
 rintro _ _ ⟨rfl, rfl⟩
 refine roK ?_
 refine TA.one 10 (by kernel_rfl) ?_
 refine TO.dz 2047 (some 15) rfl rfl rfl rfl (Does.callF go96 rfl (sipSum_fn ⟨k.b, not64 k.a⟩ l _ _ _ _ ((hA.cons _).cons _) rfl hl)) ?_
 rintro _ _ ⟨rfl, rfl⟩
 refine roK ?_
 refine TA.tk 11 4095 rfl rfl rfl (Val.buildA ar98 sz24 ze98 rfl rfl) ?_
 refine TA.one 12 (by kernel_rfl) ?_
 refine TO.dz 8191 none rfl rfl rfl rfl (Does.store (i := 0) rfl rfl rfl sz98 rfl rfl (by first | exact Nat.le_of_ble_eq_true rfl | decide | omega) rfl rfl) ?_
 rintro _ _ ⟨rfl, rfl⟩
 refine roK ?_
 refine TA.done (by kernel_rfl) ?_
 refine AtX.then ?_
 refine TC.en (E' := [(4, _)]) ?_
 refine TC.r1 (M' := M) (fn := Tryz.f72) (fun _ _ h => h) rfl (RV.agg (i := 0) rfl ag98 sz98 rfl rfl rfl) ?_
 exact ⟨rfl, rfl⟩

/-- quorumite/mac.Bytes -/
theorem Bytes_fn (t : K2) (M : Hp) : FnC Tryz.prog 90 #[.agg #[.int .u64 t.a, .int .u64 t.b]] M (fun v M' => ∃ b c sp, v = .slice (some ⟨b, 0, none⟩) 16 c ∧ 16 + sp.length = c ∧ M' = (b, row 5 (bv (tagB t) ++ sp)) :: M) := by
 refine FnC.intro Tryz.func90 rfl 10 rfl (by simp) (fun z => ?_)
 refine TC.en (E' := [(0, _)]) ?_
 refine TC.sr ?_
 refine TL.d (Does.box rfl rfl) ?_
 rintro _ _ ⟨b1, rfl, rfl⟩
 refine TL.v (Val.assign rfl) ?_
 refine TL.nt ?_
 refine TC.seq ?_
 refine TC.drawL ((b1, .cells #[.int .u64 t.a, .int .u64 t.b] 98 (0, 0)) :: M) mixed 8 ?_
 refine TA.tk 0 1 rfl rfl rfl (Val.indexAddrA (i := 0) rfl rfl ar98 sz24 rfl (by first | decide | omega) rfl) ?_
 refine TA.tk 1 3 rfl rfl rfl (Val.load 0 rfl ag24 rfl rfl) ?_
 refine TA.tk 3 11 rfl rfl rfl (Val.indexAddrA (i := 1) rfl rfl ar98 sz24 rfl (by first | decide | omega) rfl) ?_
 refine TA.tk 4 27 rfl rfl rfl (Val.load 0 rfl ag24 rfl rfl) ?_
 refine TA.one 2 (by kernel_rfl) ?_
 refine TO.dz 31 (some 5) rfl rfl rfl rfl (Does.callF go101 rfl (sipPut_fn _ _)) ?_
 rintro _ _ ⟨bP, cP, spP, rfl, hcP, rfl⟩
 refine roK ?_
 refine TA.one 5 (by kernel_rfl) ?_
 refine TO.dz 63 (some 8) rfl rfl rfl rfl (Does.callF go101 rfl (sipPut_fn _ _)) ?_
 rintro _ _ ⟨bQ, cQ, spQ, rfl, hcQ, rfl⟩
 refine roK ?_
 refine TA.one 6 (by kernel_rfl) ?_
 refine TO.dz 127 (some 9) rfl rfl rfl rfl (Does.appendS (xs := bv (put8 t.a)) (ys := bv (put8 t.b)) (some (bP, cP, spP)) ((b1, .cells #[.int .u64 t.a, .int .u64 t.b] 98 (0, 0)) :: M) (ro_tail ro_refl) rfl rfl sl34 sz5 by5 ze5 rfl ⟨by simp, by simpa using hcP⟩ (srcB us34 (rd_all (i := 0) rfl)) (by simp) (bv_one _) (by omega) (by omega)) ?_
 rintro _ _ ⟨σ, rfl, hok, rfl⟩
 obtain ⟨b, c, sp, rfl, hc⟩ := hok.some (by omega)
 rw [← bv_append]
 refine roK ?_
 refine TA.tk 7 255 rfl rfl rfl (Val.assign rfl) ?_
 refine TA.done (by kernel_rfl) ?_
 refine AtX.then ?_
 refine TC.en (E' := [(2, _)]) ?_
 refine TC.r1 (hM := (fun w h => ro_del 1 rfl w h)) (M' := (b, row 5 (bv (tagB t) ++ sp)) :: M) (fn := Tryz.f90) (fun _ _ h => h) rfl (RV.tmp rfl) ?_
 exact ⟨b, c, sp, rfl, by simpa using hc, rfl⟩

end Go.Proofs.YtphoapajlcaoeaaGreat
/- walks -/
set_option linter.unusedVariables false
set_option linter.unusedSimpArgs false
set_option maxRecDepth 100000
set_option maxHeartbeats 4000000
namespace Go.Proofs.YtphoapajlcaoeaaGreat
open Go Go.X
/-- quorumite/wire.in -/
theorem in_true (n lo hi : Int) (M : Hp) (h : lo ≤ n ∧ n ≤ hi) : FnC Tryz.prog 81 #[.int .i64 n, .int .i64 lo, .int .i64 hi] M (fun v M' => v = .bool true ∧ M = M') := by
 refine FnC.intro Tryz.func81 rfl 15 rfl (by simp) (fun z => ?_)
 refine TC.en (E' := [(0, _), (1, _), (2, _)]) ?_
 refine TC.sr ?_
 refine TL.v (Val.assign rfl) ?_
 refine TL.nt ?_
 refine TC.sr ?_
 refine TL.v (Val.move rfl) ?_
 refine TL.v (Val.move rfl) ?_
 refine TL.v (Val.same (v' := .bool true) (Val.geq rfl rfl) (by rw [decide_eq_true h.1])) ?_
 refine TL.v (Val.move rfl) ?_
 refine TL.vy (Val.move rfl) ?_
 refine TL.vy (Val.move rfl) ?_
 refine TL.vy (Val.same (v' := .bool true) (Val.leq rfl rfl) (by rw [decide_eq_true h.2])) ?_
 refine TL.v (Val.pickAnd rfl rfl rfl) ?_
 refine TL.v (Val.assign rfl) ?_
 refine TL.nt ?_
 refine TC.en (E' := [(6, _)]) ?_
 refine TC.ret1 (fn := Tryz.f81) (fun _ _ h => h) rfl (RV.tmp rfl) (fun _ h => h) ?_
 exact ⟨rfl, rfl⟩

/-- quorumite/wire.May -/
theorem May_true (m : Ms) (M : Hp) (hm : mayM m = true) : FnC Tryz.prog 52 #[.agg #[.int .i64 m.kind, .int .i64 m.who, .int .i64 m.gen, .int .i64 m.seq, .int .i64 m.epoch, .int .i64 m.value, .int .i64 m.metric]] M (fun v M' => v = .bool true ∧ M = M') := by
 obtain ⟨hk, hw, hg, hs, he, hme, hv⟩ := mayM_iff.1 hm
 refine FnC.intro Tryz.func52 rfl 43 rfl (by simp) (fun z => ?_)
 refine TC.en (E' := [(0, _)]) ?_
 refine TC.sr ?_
 refine TL.d (Does.box rfl rfl) ?_
 rintro _ _ ⟨b1, rfl, rfl⟩
 refine TL.v (Val.assign rfl) ?_
 refine TL.nt ?_
 refine TC.en (E' := [(1, _), (2, _)]) ?_
 refine TC.sr ?_
 refine TL.v (Val.assign rfl) ?_
 refine TL.v (Val.assign rfl) ?_
 refine TL.nt ?_
 refine TC.en (E' := [(1, _), (2, _), (3, _), (4, _)]) ?_
 refine TC.seq ?_
 refine TC.sr ?_
 refine TL.v (Val.fieldAddr rfl fl39_0 sz3 rfl) ?_
 refine TL.v (Val.load 0 rfl ag3 rfl rfl) ?_
 refine TL.v (Val.eqlI rfl rfl) ?_
 refine TL.nt ?_
 refine TC.en (E' := [(1, _), (2, _), (3, _), (4, _), (7, _)]) ?_
 refine TC.condP rfl (fun c1 => ?_) (fun c1 => ?_)
 ·
  refine TC.en (E' := [(1, _), (2, _), (3, _), (4, _)]) ?_
  refine TC.region ?_
  refine TL.v (Val.assign rfl) ?_
  refine TL.v (Val.assign rfl) ?_
  refine TL.nt ?_
  refine TC.en (E' := [(1, _), (2, _), (3, _), (4, _)]) ?_
  refine TC.sr ?_
  refine TL.v (Val.fieldAddr rfl fl39_0 sz3 rfl) ?_
  refine TL.v (Val.load 0 rfl ag3 rfl rfl) ?_
  refine TL.d (Does.callF go81 rfl (in_true _ _ _ _ ⟨by omega, by omega⟩)) ?_
  rintro _ _ ⟨rfl, rfl⟩
  refine TL.v (Val.move rfl) ?_
  refine TL.vy (Val.fieldAddr rfl fl39_1 sz3 rfl) ?_
  refine TL.vy (Val.load 0 rfl ag3 rfl rfl) ?_
  refine TL.dy (Does.callF go81 rfl (in_true _ _ _ _ ⟨by omega, by omega⟩)) ?_
  rintro _ _ ⟨rfl, rfl⟩
  refine TL.v (Val.pickAnd rfl rfl rfl) ?_
  refine TL.v (Val.move rfl) ?_
  refine TL.vy (Val.fieldAddr rfl fl39_2 sz3 rfl) ?_
  refine TL.vy (Val.load 0 rfl ag3 rfl rfl) ?_
  refine TL.dy (Does.callF go81 rfl (in_true _ _ _ _ ⟨by omega, by omega⟩)) ?_
  rintro _ _ ⟨rfl, rfl⟩
  refine TL.v (Val.pickAnd rfl rfl rfl) ?_
  refine TL.v (Val.move rfl) ?_
  refine TL.vy (Val.fieldAddr rfl fl39_3 sz2 rfl) ?_
  refine TL.vy (Val.load 0 rfl ag2 rfl rfl) ?_
  refine TL.dy (Does.callF go81 rfl (in_true _ _ _ _ ⟨by omega, by omega⟩)) ?_
  rintro _ _ ⟨rfl, rfl⟩
  refine TL.v (Val.pickAnd rfl rfl rfl) ?_
  refine TL.v (Val.move rfl) ?_
  refine TL.vy (Val.fieldAddr rfl fl39_4 sz2 rfl) ?_
  refine TL.vy (Val.load 0 rfl ag2 rfl rfl) ?_
  refine TL.dy (Does.callF go81 rfl (in_true _ _ _ _ ⟨by omega, by omega⟩)) ?_
  rintro _ _ ⟨rfl, rfl⟩
  refine TL.v (Val.pickAnd rfl rfl rfl) ?_
  refine TL.v (Val.move rfl) ?_
  refine TL.vy (Val.fieldAddr rfl fl39_6 sz3 rfl) ?_
  refine TL.vy (Val.load 0 rfl ag3 rfl rfl) ?_
  refine TL.vy (Val.move rfl) ?_
  refine TL.dy (Does.callF go81 rfl (in_true _ _ _ _ ⟨by omega, by omega⟩)) ?_
  rintro _ _ ⟨rfl, rfl⟩
  refine TL.v (Val.pickAnd rfl rfl rfl) ?_
  refine TL.v (Val.move rfl) ?_
  refine TL.vy (Val.fieldAddr rfl fl39_5 sz2 rfl) ?_
  refine TL.vy (Val.load 0 rfl ag2 rfl rfl) ?_
  refine TL.vy (Val.move rfl) ?_
  refine TL.dy (Does.callF go81 rfl (in_true _ _ _ _ ⟨by omega, by omega⟩)) ?_
  rintro _ _ ⟨rfl, rfl⟩
  refine TL.v (Val.pickAnd rfl rfl rfl) ?_
  refine TL.v (Val.assign rfl) ?_
  refine TL.nt ?_
  refine TC.en (E' := [(2, _)]) ?_
  refine TC.ret1 (fn := Tryz.f52) (fun _ _ h => h) rfl (RV.tmp rfl) (M' := M) (by repeat (first | exact ro_refl | exact ro_pre | refine ro_tail ?_ | refine ro_app ?_)) ?_
  exact ⟨rfl, rfl⟩
 ·
  refine TC.en (E' := [(1, _), (2, _), (3, _), (4, _)]) ?_
  refine TC.skip ?_
  refine AtX.then ?_
  refine TC.en (E' := [(1, _), (2, _), (3, _), (4, _)]) ?_
  refine TC.sr ?_
  refine TL.v (Val.fieldAddr rfl fl39_0 sz3 rfl) ?_
  refine TL.v (Val.load 0 rfl ag3 rfl rfl) ?_
  refine TL.d (Does.callF go81 rfl (in_true _ _ _ _ ⟨by omega, by omega⟩)) ?_
  rintro _ _ ⟨rfl, rfl⟩
  refine TL.v (Val.move rfl) ?_
  refine TL.vy (Val.fieldAddr rfl fl39_1 sz3 rfl) ?_
  refine TL.vy (Val.load 0 rfl ag3 rfl rfl) ?_
  refine TL.dy (Does.callF go81 rfl (in_true _ _ _ _ ⟨by omega, by omega⟩)) ?_
  rintro _ _ ⟨rfl, rfl⟩
  refine TL.v (Val.pickAnd rfl rfl rfl) ?_
  refine TL.v (Val.move rfl) ?_
  refine TL.vy (Val.fieldAddr rfl fl39_2 sz3 rfl) ?_
  refine TL.vy (Val.load 0 rfl ag3 rfl rfl) ?_
  refine TL.dy (Does.callF go81 rfl (in_true _ _ _ _ ⟨by omega, by omega⟩)) ?_
  rintro _ _ ⟨rfl, rfl⟩
  refine TL.v (Val.pickAnd rfl rfl rfl) ?_
  refine TL.v (Val.move rfl) ?_
  refine TL.vy (Val.fieldAddr rfl fl39_3 sz2 rfl) ?_
  refine TL.vy (Val.load 0 rfl ag2 rfl rfl) ?_
  refine TL.dy (Does.callF go81 rfl (in_true _ _ _ _ ⟨by omega, by omega⟩)) ?_
  rintro _ _ ⟨rfl, rfl⟩
  refine TL.v (Val.pickAnd rfl rfl rfl) ?_
  refine TL.v (Val.move rfl) ?_
  refine TL.vy (Val.fieldAddr rfl fl39_4 sz2 rfl) ?_
  refine TL.vy (Val.load 0 rfl ag2 rfl rfl) ?_
  refine TL.dy (Does.callF go81 rfl (in_true _ _ _ _ ⟨by omega, by omega⟩)) ?_
  rintro _ _ ⟨rfl, rfl⟩
  refine TL.v (Val.pickAnd rfl rfl rfl) ?_
  refine TL.v (Val.move rfl) ?_
  refine TL.vy (Val.fieldAddr rfl fl39_6 sz3 rfl) ?_
  refine TL.vy (Val.load 0 rfl ag3 rfl rfl) ?_
  refine TL.vy (Val.move rfl) ?_
  refine TL.dy (Does.callF go81 rfl (in_true _ _ _ _ ⟨by omega, by omega⟩)) ?_
  rintro _ _ ⟨rfl, rfl⟩
  refine TL.v (Val.pickAnd rfl rfl rfl) ?_
  refine TL.v (Val.move rfl) ?_
  refine TL.vy (Val.fieldAddr rfl fl39_5 sz2 rfl) ?_
  refine TL.vy (Val.load 0 rfl ag2 rfl rfl) ?_
  refine TL.vy (Val.move rfl) ?_
  refine TL.dy (Does.callF go81 rfl (in_true _ _ _ _ ⟨by omega, by omega⟩)) ?_
  rintro _ _ ⟨rfl, rfl⟩
  refine TL.v (Val.pickAnd rfl rfl rfl) ?_
  refine TL.v (Val.assign rfl) ?_
  refine TL.nt ?_
  refine TC.en (E' := [(2, _)]) ?_
  refine TC.ret1 (fn := Tryz.f52) (fun _ _ h => h) rfl (RV.tmp rfl) (M' := M) (by repeat (first | exact ro_refl | exact ro_pre | refine ro_tail ?_ | refine ro_app ?_)) ?_
  exact ⟨rfl, rfl⟩

/-- quorumite/wire.Put -/
theorem wPut_fn (m : Ms) (M : Hp) (hm : mayM m = true) : FnC Tryz.prog 89 #[.agg #[.int .i64 m.kind, .int .i64 m.who, .int .i64 m.gen, .int .i64 m.seq, .int .i64 m.epoch, .int .i64 m.value, .int .i64 m.metric]] M (fun v M' => ∃ b c sp, v = .tuple #[.slice (some ⟨b, 0, none⟩) 32 c, .int .i64 0] ∧ 32 + sp.length = c ∧ M' = (b, row 5 (bv (putM m) ++ sp)) :: M) := by
 refine FnC.intro Tryz.func89 rfl 45 rfl (by simp) (fun z => ?_)
 refine TC.en (E' := [(0, _)]) ?_
 refine TC.sr ?_
 refine TL.d (Does.box rfl rfl) ?_
 rintro _ _ ⟨b1, rfl, rfl⟩
 refine TL.v (Val.assign rfl) ?_
 refine TL.v (Val.assign rfl) ?_
 refine TL.nt ?_
 refine TC.en (E' := [(1, _), (2, _), (3, _)]) ?_
 refine TC.seq ?_
 refine TC.sr ?_
 refine TL.v (Val.loadAgg 0 rfl ag39 sz39 rfl rfl rfl) ?_
 refine TL.d (Does.callF go52 rfl (May_true m _ hm)) ?_
 rintro _ _ ⟨rfl, rfl⟩
 refine TL.v (Val.not rfl) ?_
 refine TL.nt ?_
 refine TC.en (E' := [(1, _), (2, _), (3, _), (9, _)]) ?_
 refine TC.condB rfl (fun c1 => ?_) (fun c1 => ?_)
 ·
  cases c1
 ·
  refine TC.en (E' := [(1, _), (2, _), (3, _)]) ?_
  refine TC.skip ?_
  refine AtX.then ?_
  refine TC.en (E' := [(1, _), (2, _), (3, _)]) ?_
  refine TC.seq ?_
  refine TC.drawL ((b1, .cells #[.int .i64 m.kind, .int .i64 m.who, .int .i64 m.gen, .int .i64 m.seq, .int .i64 m.epoch, .int .i64 m.value, .int .i64 m.metric] 39 (0, 0)) :: M) mixed 17 ?_
  refine TA.tk 0 1 rfl rfl rfl (Val.fieldAddr rfl fl39_0 sz3 rfl) ?_
  refine TA.tk 1 3 rfl rfl rfl (Val.load 0 rfl ag3 rfl rfl) ?_
  refine TA.tk 2 7 rfl rfl rfl (Val.convI rfl iu3 in5 w_b8) ?_
  refine TA.tk 3 15 rfl rfl rfl (Val.fieldAddr rfl fl39_1 sz3 rfl) ?_
  refine TA.tk 4 31 rfl rfl rfl (Val.load 0 rfl ag3 rfl rfl) ?_
  refine TA.tk 5 63 rfl rfl rfl (Val.convI rfl iu3 in5 w_b8) ?_
  refine TA.tk 6 127 rfl rfl rfl (Val.fieldAddr rfl fl39_6 sz3 rfl) ?_
  refine TA.tk 7 255 rfl rfl rfl (Val.load 0 rfl ag3 rfl rfl) ?_
  refine TA.tk 8 511 rfl rfl rfl (Val.convI rfl iu3 in5 w_b8) ?_
  refine TA.tk 10 1535 rfl rfl rfl (Val.fieldAddr rfl fl39_2 sz3 rfl) ?_
  refine TA.tk 11 3583 rfl rfl rfl (Val.load 0 rfl ag3 rfl rfl) ?_
  refine TA.tk 12 7679 rfl rfl rfl (Val.convI rfl iu3 in24 rfl) ?_
  refine TA.two 9 13 (by kernel_rfl) ?_ ?_
  ·
   refine TO.dz 8191 (some 19) rfl rfl rfl rfl (Does.buildSlice sl34 sz5 ze5 (by decide) (by decide) rfl rfl rfl) ?_
   rintro _ _ ⟨bH, rfl, rfl⟩
   refine roK ?_
   refine TA.one 13 (by kernel_rfl) ?_
   refine TO.dz 16383 (some 23) rfl rfl rfl rfl (Does.callF go101 rfl (sipPut_fn _ _)) ?_
   rintro _ _ ⟨bP, cP, spP, rfl, hcP, rfl⟩
   refine roK ?_
   refine TA.tk 14 32767 rfl rfl rfl (Val.sliceTo (j := 4) rfl sl34 sz5 rfl rfl (by omega)) ?_
   refine TA.one 15 (by kernel_rfl) ?_
   refine TO.dz 65535 (some 25) rfl rfl rfl rfl (Does.appendS (xs := bv [1, Go.X.b8 m.kind, Go.X.b8 m.who, Go.X.b8 m.metric]) (ys := bv ((put8 (IntKind.u64.wrap m.gen)).take 4)) (some (bH, 4, [])) ((b1, .cells #[.int .i64 m.kind, .int .i64 m.who, .int .i64 m.gen, .int .i64 m.seq, .int .i64 m.epoch, .int .i64 m.value, .int .i64 m.metric] 39 (0, 0)) :: M) (fun w h => ro_del 0 rfl w h) rfl rfl sl34 sz5 by5 ze5 rfl ⟨rfl, rfl⟩ (srcB us34 (rd_rowB (i := 0) rfl 4 (by simp))) (by simp) (bv_one _) (by omega) (by omega)) ?_
   rintro _ _ ⟨σ, rfl, hok, rfl⟩
   rw [← bv_append, show [1, Go.X.b8 m.kind, Go.X.b8 m.who, Go.X.b8 m.metric] ++ ((put8 (IntKind.u64.wrap m.gen)).take 4) = putTo m 0 from (putTo_0 m).symm] at hok ⊢
   refine roK ?_
   refine TA.tk 16 131071 rfl rfl rfl (Val.assign rfl) ?_
   refine TA.done (by kernel_rfl) ?_
   refine AtX.then ?_
   refine TC.en (E' := [(1, _), (2, _), (3, _), (4, _)]) ?_
   refine TC.seq ?_
   refine TC.seq ?_
   refine TC.heap (M' := (b1, .cells #[.int .i64 m.kind, .int .i64 m.who, .int .i64 m.gen, .int .i64 m.seq, .int .i64 m.epoch, .int .i64 m.value, .int .i64 m.metric] 39 (0, 0)) :: (slH σ 5 (bv (putTo m 0)) ++ M)) ro_mid ?_
   refine TC.region ?_
   refine TL.v (Val.fieldAddr rfl fl39_3 sz2 rfl) ?_
   refine TL.v (Val.load 0 rfl ag2 rfl rfl) ?_
   refine TL.v (Val.fieldAddr rfl fl39_4 sz2 rfl) ?_
   refine TL.v (Val.load 0 rfl ag2 rfl rfl) ?_
   refine TL.v (Val.fieldAddr rfl fl39_5 sz2 rfl) ?_
   refine TL.v (Val.load 0 rfl ag2 rfl rfl) ?_
   refine TL.d (Does.buildSlice sl65 sz2 ze2 (by decide) (by decide) rfl rfl rfl) ?_
   rintro _ _ ⟨b4, rfl, rfl⟩
   refine TL.v (Val.lenSl rfl rfl sl65) ?_
   refine TL.v (Val.move rfl) ?_
   refine TL.nt ?_
   refine TC.en (E' := [(2, _), (3, _), (4, _), (32, _), (33, _), (34, _)]) ?_
   refine TC.block ?_
   refine TC.loop (ι := (Nat × Sl)) (fun i => [(4, .slice (slA i.2) (putTo m i.1).length (slC i.2)), (32, .slice (some ⟨b4, 0, none⟩) 3 3), (33, .int .i64 3), (34, .int .i64 (i.1 : Nat))]) (fun i => slH i.2 5 (bv (putTo m i.1)) ++ ((b4, .cells #[.int .i64 m.seq, .int .i64 m.epoch, .int .i64 m.value] 2 (0, 0)) :: (b1, .cells #[.int .i64 m.kind, .int .i64 m.who, .int .i64 m.gen, .int .i64 m.seq, .int .i64 m.epoch, .int .i64 m.value, .int .i64 m.metric] 39 (0, 0)) :: M)) (fun i => i.1 ≤ 3 ∧ slOk i.2 1 (putTo m i.1).length (bv (putTo m i.1))) (fun i => 3 - i.1) (0, σ) ?_ (Sub.cons rfl (Sub.cons rfl (Sub.cons rfl (Sub.cons rfl (Sub.nil _))))) ro_dim2 ?_
   · exact ⟨by omega, by rw [putTo_len m (by omega)]; exact hok⟩
   rintro ⟨k, σ⟩ ⟨hk, hok⟩
   dsimp only at hk hok ⊢
   refine TC.sr ?_
   refine TL.v (Val.lss rfl rfl) ?_
   refine TL.nt ?_
   refine TC.seq ?_
   refine TC.condP rfl (fun c2 => ?_) (fun c2 => ?_)
   ·
    refine TC.skip ?_
    refine AtX.then ?_
    refine TC.seq ?_
    refine TC.block ?_
    refine TC.seq ?_
    have hlt : k < 3 := by omega
    obtain ⟨x, hx⟩ : ∃ x, (tailB m)[k]? = some x := ⟨_, List.getElem?_eq_getElem (by show k < 3; omega)⟩
    have hpl := putTo_len m hk
    refine TC.region ?_
    refine TL.v (Val.indexAddr (i := k) (r := k) rfl rfl sl65 sz2 rfl (by omega) (by omega)) ?_
    refine TL.v (Val.loadRd (o := 0) (j := k) rfl ag2 (Rd.app _ (Rd.get (M := (b4, .cells #[.int .i64 m.seq, .int .i64 m.epoch, .int .i64 m.value] 2 (0, 0)) :: (b1, .cells #[.int .i64 m.kind, .int .i64 m.who, .int .i64 m.gen, .int .i64 m.seq, .int .i64 m.epoch, .int .i64 m.value, .int .i64 m.metric] 39 (0, 0)) :: M) (i := 0) (ys := (tailB m).map (Value.int .i64)) rfl rfl)) (by omega) (map_get hx)) ?_
    refine TL.v (Val.assign rfl) ?_
    refine TL.nt ?_
    refine TC.region ?_
    refine TL.v (Val.move rfl) ?_
    refine TL.v (Val.move rfl) ?_
    refine TL.v (Val.convI rfl iu2 in24 rfl) ?_
    refine TL.d (Does.callF go101 rfl (sipPut_fn _ _)) ?_
    rintro _ _ ⟨bQ, cQ, spQ, rfl, hcQ, rfl⟩
    refine TL.d (Does.appendS (xs := bv (putTo m k)) (ys := bv (put8 (IntKind.u64.wrap x))) σ ((b4, .cells #[.int .i64 m.seq, .int .i64 m.epoch, .int .i64 m.value] 2 (0, 0)) :: (b1, .cells #[.int .i64 m.kind, .int .i64 m.who, .int .i64 m.gen, .int .i64 m.seq, .int .i64 m.epoch, .int .i64 m.value, .int .i64 m.metric] 39 (0, 0)) :: M) (ro_tail ro_refl) rfl rfl sl34 sz5 by5 ze5 rfl hok (srcB us34 (rd_all (i := 0) rfl)) (by simp) (bv_one _) (by omega) (by omega)) ?_
    rintro _ _ ⟨σ1, rfl, hok1, rfl⟩
    refine TL.v (Val.assign rfl) ?_
    refine TL.nil ?_
    refine AtX.blk ?_
    refine AtX.then ?_
    refine TC.region ?_
    refine TL.v (Val.add rfl rfl (w_i64 (by omega) (by omega))) ?_
    refine TL.v (Val.move rfl) ?_
    refine TL.nil ?_
    refine AtX.round (i := (k, σ)) (k + 1, σ1) ?_ ?_ (Sub.cons (by rw [putTo_S hx, List.length_append, put8_len]; rfl) (Sub.cons rfl (Sub.cons rfl (Sub.cons rfl (Sub.nil _))))) (fun w h => by dsimp only; rw [putTo_S hx, bv_append]; exact h)
    · exact ⟨by omega, by dsimp only; rw [putTo_S hx, List.length_append, bv_append, put8_len]; exact hok1⟩
    · show 3 - (k + 1) < 3 - k; omega
   ·
    refine TC.exit ?_
    refine AtX.seqX ?_
    refine AtX.seqX ?_
    refine AtX.hit ?_
    refine AtX.then ?_
    refine TC.en (E' := [(4, _)]) ?_
    refine TC.seq ?_
    have h3 : k = 3 := by omega
    subst h3
    rw [putTo_3] at hok ⊢
    rw [putM_len] at hok ⊢
    obtain ⟨b, c, sp, rfl, hc⟩ := hok.some (by omega)
    refine TC.region ?_
    refine TL.v (Val.move rfl) ?_
    refine TL.v (Val.assign rfl) ?_
    refine TL.v (Val.assign rfl) ?_
    refine TL.nt ?_
    refine TC.en (E' := [(2, _), (3, _)]) ?_
    refine TC.ret2 (fn := Tryz.f89) (fun _ _ h => h) rfl (RV.tmp rfl) (RV.tmp rfl) (M' := (b, row 5 (bv (putM m) ++ sp)) :: M) (fun w h => ro_del 1 rfl w (ro_del 1 rfl w h)) ?_
    exact ⟨b, c, sp, rfl, by simpa using hc, rfl⟩
  ·
   refine TO.dz 15871 (some 23) rfl rfl rfl rfl (Does.callF go101 rfl (sipPut_fn _ _)) ?_
   rintro _ _ ⟨bP, cP, spP, rfl, hcP, rfl⟩
   refine roK ?_
   refine TA.tk 14 32255 rfl rfl rfl (Val.sliceTo (j := 4) rfl sl34 sz5 rfl rfl (by omega)) ?_
   refine TA.one 9 (by kernel_rfl) ?_
   refine TO.dz 32767 (some 19) rfl rfl rfl rfl (Does.buildSlice sl34 sz5 ze5 (by decide) (by decide) rfl rfl rfl) ?_
   rintro _ _ ⟨bH, rfl, rfl⟩
   refine roK ?_
   refine TA.one 15 (by kernel_rfl) ?_
   refine TO.dz 65535 (some 25) rfl rfl rfl rfl (Does.appendS (xs := bv [1, Go.X.b8 m.kind, Go.X.b8 m.who, Go.X.b8 m.metric]) (ys := bv ((put8 (IntKind.u64.wrap m.gen)).take 4)) (some (bH, 4, [])) ((b1, .cells #[.int .i64 m.kind, .int .i64 m.who, .int .i64 m.gen, .int .i64 m.seq, .int .i64 m.epoch, .int .i64 m.value, .int .i64 m.metric] 39 (0, 0)) :: M) (fun w h => ro_del 1 rfl w h) rfl rfl sl34 sz5 by5 ze5 rfl ⟨rfl, rfl⟩ (srcB us34 (rd_rowB (i := 1) rfl 4 (by simp))) (by simp) (bv_one _) (by omega) (by omega)) ?_
   rintro _ _ ⟨σ, rfl, hok, rfl⟩
   rw [← bv_append, show [1, Go.X.b8 m.kind, Go.X.b8 m.who, Go.X.b8 m.metric] ++ ((put8 (IntKind.u64.wrap m.gen)).take 4) = putTo m 0 from (putTo_0 m).symm] at hok ⊢
   refine roK ?_
   refine TA.tk 16 131071 rfl rfl rfl (Val.assign rfl) ?_
   refine TA.done (by kernel_rfl) ?_
   refine AtX.then ?_
   refine TC.en (E' := [(1, _), (2, _), (3, _), (4, _)]) ?_
   refine TC.seq ?_
   refine TC.seq ?_
   refine TC.heap (M' := (b1, .cells #[.int .i64 m.kind, .int .i64 m.who, .int .i64 m.gen, .int .i64 m.seq, .int .i64 m.epoch, .int .i64 m.value, .int .i64 m.metric] 39 (0, 0)) :: (slH σ 5 (bv (putTo m 0)) ++ M)) ro_mid ?_
   refine TC.region ?_
   refine TL.v (Val.fieldAddr rfl fl39_3 sz2 rfl) ?_
   refine TL.v (Val.load 0 rfl ag2 rfl rfl) ?_
   refine TL.v (Val.fieldAddr rfl fl39_4 sz2 rfl) ?_
   refine TL.v (Val.load 0 rfl ag2 rfl rfl) ?_
   refine TL.v (Val.fieldAddr rfl fl39_5 sz2 rfl) ?_
   refine TL.v (Val.load 0 rfl ag2 rfl rfl) ?_
   refine TL.d (Does.buildSlice sl65 sz2 ze2 (by decide) (by decide) rfl rfl rfl) ?_
   rintro _ _ ⟨b4, rfl, rfl⟩
   refine TL.v (Val.lenSl rfl rfl sl65) ?_
   refine TL.v (Val.move rfl) ?_
   refine TL.nt ?_
   refine TC.en (E' := [(2, _), (3, _), (4, _), (32, _), (33, _), (34, _)]) ?_
   refine TC.block ?_
   refine TC.loop (ι := (Nat × Sl)) (fun i => [(4, .slice (slA i.2) (putTo m i.1).length (slC i.2)), (32, .slice (some ⟨b4, 0, none⟩) 3 3), (33, .int .i64 3), (34, .int .i64 (i.1 : Nat))]) (fun i => slH i.2 5 (bv (putTo m i.1)) ++ ((b4, .cells #[.int .i64 m.seq, .int .i64 m.epoch, .int .i64 m.value] 2 (0, 0)) :: (b1, .cells #[.int .i64 m.kind, .int .i64 m.who, .int .i64 m.gen, .int .i64 m.seq, .int .i64 m.epoch, .int .i64 m.value, .int .i64 m.metric] 39 (0, 0)) :: M)) (fun i => i.1 ≤ 3 ∧ slOk i.2 1 (putTo m i.1).length (bv (putTo m i.1))) (fun i => 3 - i.1) (0, σ) ?_ (Sub.cons rfl (Sub.cons rfl (Sub.cons rfl (Sub.cons rfl (Sub.nil _))))) ro_dim2 ?_
   · exact ⟨by omega, by rw [putTo_len m (by omega)]; exact hok⟩
   rintro ⟨k, σ⟩ ⟨hk, hok⟩
   dsimp only at hk hok ⊢
   refine TC.sr ?_
   refine TL.v (Val.lss rfl rfl) ?_
   refine TL.nt ?_
   refine TC.seq ?_
   refine TC.condP rfl (fun c3 => ?_) (fun c3 => ?_)
   ·
    refine TC.skip ?_
    refine AtX.then ?_
    refine TC.seq ?_
    refine TC.block ?_
    refine TC.seq ?_
    have hlt : k < 3 := by omega
    obtain ⟨x, hx⟩ : ∃ x, (tailB m)[k]? = some x := ⟨_, List.getElem?_eq_getElem (by show k < 3; omega)⟩
    have hpl := putTo_len m hk
    refine TC.region ?_
    refine TL.v (Val.indexAddr (i := k) (r := k) rfl rfl sl65 sz2 rfl (by omega) (by omega)) ?_
    refine TL.v (Val.loadRd (o := 0) (j := k) rfl ag2 (Rd.app _ (Rd.get (M := (b4, .cells #[.int .i64 m.seq, .int .i64 m.epoch, .int .i64 m.value] 2 (0, 0)) :: (b1, .cells #[.int .i64 m.kind, .int .i64 m.who, .int .i64 m.gen, .int .i64 m.seq, .int .i64 m.epoch, .int .i64 m.value, .int .i64 m.metric] 39 (0, 0)) :: M) (i := 0) (ys := (tailB m).map (Value.int .i64)) rfl rfl)) (by omega) (map_get hx)) ?_
    refine TL.v (Val.assign rfl) ?_
    refine TL.nt ?_
    refine TC.region ?_
    refine TL.v (Val.move rfl) ?_
    refine TL.v (Val.move rfl) ?_
    refine TL.v (Val.convI rfl iu2 in24 rfl) ?_
    refine TL.d (Does.callF go101 rfl (sipPut_fn _ _)) ?_
    rintro _ _ ⟨bQ, cQ, spQ, rfl, hcQ, rfl⟩
    refine TL.d (Does.appendS (xs := bv (putTo m k)) (ys := bv (put8 (IntKind.u64.wrap x))) σ ((b4, .cells #[.int .i64 m.seq, .int .i64 m.epoch, .int .i64 m.value] 2 (0, 0)) :: (b1, .cells #[.int .i64 m.kind, .int .i64 m.who, .int .i64 m.gen, .int .i64 m.seq, .int .i64 m.epoch, .int .i64 m.value, .int .i64 m.metric] 39 (0, 0)) :: M) (ro_tail ro_refl) rfl rfl sl34 sz5 by5 ze5 rfl hok (srcB us34 (rd_all (i := 0) rfl)) (by simp) (bv_one _) (by omega) (by omega)) ?_
    rintro _ _ ⟨σ1, rfl, hok1, rfl⟩
    refine TL.v (Val.assign rfl) ?_
    refine TL.nil ?_
    refine AtX.blk ?_
    refine AtX.then ?_
    refine TC.region ?_
    refine TL.v (Val.add rfl rfl (w_i64 (by omega) (by omega))) ?_
    refine TL.v (Val.move rfl) ?_
    refine TL.nil ?_
    refine AtX.round (i := (k, σ)) (k + 1, σ1) ?_ ?_ (Sub.cons (by rw [putTo_S hx, List.length_append, put8_len]; rfl) (Sub.cons rfl (Sub.cons rfl (Sub.cons rfl (Sub.nil _))))) (fun w h => by dsimp only; rw [putTo_S hx, bv_append]; exact h)
    · exact ⟨by omega, by dsimp only; rw [putTo_S hx, List.length_append, bv_append, put8_len]; exact hok1⟩
    · show 3 - (k + 1) < 3 - k; omega
   ·
    refine TC.exit ?_
    refine AtX.seqX ?_
    refine AtX.seqX ?_
    refine AtX.hit ?_
    refine AtX.then ?_
    refine TC.en (E' := [(4, _)]) ?_
    refine TC.seq ?_
    have h3 : k = 3 := by omega
    subst h3
    rw [putTo_3] at hok ⊢
    rw [putM_len] at hok ⊢
    obtain ⟨b, c, sp, rfl, hc⟩ := hok.some (by omega)
    refine TC.region ?_
    refine TL.v (Val.move rfl) ?_
    refine TL.v (Val.assign rfl) ?_
    refine TL.v (Val.assign rfl) ?_
    refine TL.nt ?_
    refine TC.en (E' := [(2, _), (3, _)]) ?_
    refine TC.ret2 (fn := Tryz.f89) (fun _ _ h => h) rfl (RV.tmp rfl) (RV.tmp rfl) (M' := (b, row 5 (bv (putM m) ++ sp)) :: M) (fun w h => ro_del 1 rfl w (ro_del 1 rfl w h)) ?_
    exact ⟨b, c, sp, rfl, by simpa using hc, rfl⟩

/-- quorumite/wire.Seal -/
theorem wSeal_fn (k : K2) (m : Ms) (M : Hp) (hm : mayM m = true) : FnC Tryz.prog 66 #[.agg #[.int .u64 k.a, .int .u64 k.b], .agg #[.int .i64 m.kind, .int .i64 m.who, .int .i64 m.gen, .int .i64 m.seq, .int .i64 m.epoch, .int .i64 m.value, .int .i64 m.metric]] M (fun v M' => ∃ b c sp, v = .tuple #[.slice (some ⟨b, 0, none⟩) 48 c, .int .i64 0] ∧ 48 + sp.length = c ∧ M' = (b, row 5 (bv (sealB k m) ++ sp)) :: M) := by
 refine FnC.intro Tryz.func66 rfl 22 rfl (by simp) (fun z => ?_)
 refine TC.en (E' := [(0, _), (1, _)]) ?_
 refine TC.sr ?_
 refine TL.d (Does.box rfl rfl) ?_
 rintro _ _ ⟨b1, rfl, rfl⟩
 refine TL.d (Does.box rfl rfl) ?_
 rintro _ _ ⟨b2, rfl, rfl⟩
 refine TL.v (Val.assign rfl) ?_
 refine TL.v (Val.assign rfl) ?_
 refine TL.nt ?_
 refine TC.en (E' := [(2, _), (3, _), (4, _), (5, _)]) ?_
 refine TC.sr ?_
 refine TL.v (Val.loadAgg 0 rfl ag39 sz39 rfl rfl rfl) ?_
 refine TL.d (Does.callF go89 rfl (wPut_fn m _ hm)) ?_
 rintro _ _ ⟨bB, cB, spB, rfl, hcB, rfl⟩
 refine TL.v (Val.move rfl) ?_
 refine TL.v (Val.extract rfl rfl) ?_
 refine TL.v (Val.extract rfl rfl) ?_
 refine TL.v (Val.assign rfl) ?_
 refine TL.v (Val.assign rfl) ?_
 refine TL.nt ?_
 refine TC.en (E' := [(2, _), (4, _), (5, _), (6, _), (7, _)]) ?_
 refine TC.seq ?_
 refine TC.sr ?_
 refine TL.v (Val.move rfl) ?_
 refine TL.v (Val.neqI rfl rfl) ?_
 refine TL.nt ?_
 refine TC.en (E' := [(2, _), (4, _), (5, _), (6, _), (7, _), (14, _)]) ?_
 refine TC.condP rfl (fun c1 => ?_) (fun c1 => ?_)
 ·
  exact absurd rfl c1
 ·
  refine TC.en (E' := [(2, _), (4, _), (5, _), (6, _)]) ?_
  refine TC.skip ?_
  refine AtX.then ?_
  refine TC.en (E' := [(2, _), (4, _), (5, _), (6, _)]) ?_
  refine TC.sr ?_
  refine TL.v (Val.move rfl) ?_
  refine TL.v (Val.loadAgg 2 rfl ag57 sz57 rfl rfl rfl) ?_
  refine TL.v (Val.move rfl) ?_
  refine TL.d (Does.callF go72 rfl (Tag_fn k (putM m) _ _ _ _ (rd_all (i := 0) rfl) (by simp) (by simp))) ?_
  rintro _ _ ⟨rfl, rfl⟩
  refine TL.d (Does.callF go90 rfl (Bytes_fn (tagOf k (putM m)) _)) ?_
  rintro _ _ ⟨bT, cT, spT, rfl, hcT, rfl⟩
  refine TL.d (Does.appendS (xs := bv (putM m)) (ys := bv (tagB (tagOf k (putM m)))) (some (bB, cB, spB)) _ (ro_tail ro_refl) rfl rfl sl34 sz5 by5 ze5 rfl ⟨by simp, by simpa using hcB⟩ (srcB us34 (rd_all (i := 0) rfl)) (by simp) (bv_one _) (by omega) (by omega)) ?_
  rintro _ _ ⟨σ, rfl, hok, rfl⟩
  rw [← bv_append] at hok ⊢
  obtain ⟨b, c, sp, rfl, hc⟩ := hok.some (by omega)
  refine TL.v (Val.assign rfl) ?_
  refine TL.v (Val.assign rfl) ?_
  refine TL.nt ?_
  refine TC.en (E' := [(4, _), (5, _)]) ?_
  refine TC.ret2 (fn := Tryz.f66) (fun _ _ h => h) rfl (RV.tmp rfl) (RV.tmp rfl) (M' := (b, row 5 (bv (sealB k m) ++ sp)) :: M) (fun w h => ro_del 1 rfl w (ro_del 1 rfl w h)) ?_
  exact ⟨b, c, sp, rfl, by simpa using hc, rfl⟩

end Go.Proofs.YtphoapajlcaoeaaGreat
/- walks -/
set_option linter.unusedVariables false
set_option linter.unusedSimpArgs false
set_option maxRecDepth 100000
set_option maxHeartbeats 4000000
namespace Go.Proofs.YtphoapajlcaoeaaGreat
open Go Go.X
abbrev sobj (b : Nat) (s w g q : Int) : Nat × Obj := (b, .cells #[.int .u64 s, .int .i64 w, .int .i64 g, .int .i64 q] 94 (0, 0))
/-- (*sync/atomic.Int64).Load -/
theorem aLoad_fn (b off i : Nat) (cs : Array Value) (T : TypeId) (fz : Nat × Nat) (n : Int) (M : Hp) (hi : M[i]? = some (b, .cells cs T fz)) (hv : nth cs.toList off = some (.int .i64 n)) : FnC Tryz.prog 65 #[.pointer (some ⟨b, off, none⟩)] M (fun v M' => v = .int .i64 n ∧ M = M') := by
 refine FnC.intro Tryz.func65 rfl 7 rfl (by simp) (fun z => ?_)
 refine TC.en (E' := [(0, _)]) ?_
 refine TC.sr ?_
 refine TL.v (Val.assign rfl) ?_
 refine TL.nt ?_
 refine TC.sr ?_
 refine TL.v (Val.move rfl) ?_
 refine TL.v (Val.nilCheck rfl) ?_
 refine TL.v (Val.fieldAddr rfl fl88_2 sz2 rfl) ?_
 refine TL.v (Val.atomL Tryz.func88 (by kernel_rfl) (by kernel_rfl) (by kernel_rfl) (by kernel_rfl) i rfl hi hv) ?_
 refine TL.v (Val.assign rfl) ?_
 refine TL.nt ?_
 refine TC.en (E' := [(2, _)]) ?_
 refine TC.ret1 (fn := Tryz.f65) (fun _ _ h => h) rfl (RV.tmp rfl) (fun _ h => h) ?_
 exact ⟨rfl, rfl⟩

/-- (*sync/atomic.Int64).Store -/
theorem aStore_fn (b off i : Nat) (cs : Array Value) (T : TypeId) (n : Int) (M : Hp) (hi : M[i]? = some (b, .cells cs T (0, 0))) (ho : off < cs.size) : FnC Tryz.prog 79 #[.pointer (some ⟨b, off, none⟩), .int .i64 n] M (fun v M' => v = .tuple #[] ∧ M' = M.set i (b, .cells (cs.setIfInBounds off (.int .i64 n)) T (0, 0))) := by
 refine FnC.intro Tryz.func79 rfl 9 rfl (by simp) (fun z => ?_)
 refine TC.en (E' := [(0, _), (1, _)]) ?_
 refine TC.region ?_
 refine TL.v (Val.move rfl) ?_
 refine TL.v (Val.nilCheck rfl) ?_
 refine TL.v (Val.fieldAddr rfl fl88_2 sz2 rfl) ?_
 refine TL.v (Val.move rfl) ?_
 refine TL.d (Does.atomS Tryz.func98 (by kernel_rfl) (by kernel_rfl) (by kernel_rfl) (by kernel_rfl) i rfl rfl hi ho) ?_
 rintro _ _ ⟨rfl, rfl⟩
 refine TL.nil ?_
 refine AtX.end0 rfl (fun _ h => h) ?_
 exact ⟨rfl, rfl⟩

/-- (*sync/atomic.Int64).Add -/
theorem aAdd_fn (b off i : Nat) (cs : Array Value) (T : TypeId) (n d r : Int) (M : Hp) (hi : M[i]? = some (b, .cells cs T (0, 0))) (hv : nth cs.toList off = some (.int .i64 n)) (hr : IntKind.i64.wrap (n + d) = r) : FnC Tryz.prog 39 #[.pointer (some ⟨b, off, none⟩), .int .i64 d] M (fun v M' => v = .int .i64 r ∧ M' = M.set i (b, .cells (cs.setIfInBounds off (.int .i64 r)) T (0, 0))) := by
 refine FnC.intro Tryz.func39 rfl 10 rfl (by simp) (fun z => ?_)
 refine TC.en (E' := [(0, _), (1, _)]) ?_
 refine TC.sr ?_
 refine TL.v (Val.assign rfl) ?_
 refine TL.nt ?_
 refine TC.sr ?_
 refine TL.v (Val.move rfl) ?_
 refine TL.v (Val.nilCheck rfl) ?_
 refine TL.v (Val.fieldAddr rfl fl88_2 sz2 rfl) ?_
 refine TL.v (Val.move rfl) ?_
 refine TL.d (Does.atomA Tryz.func73 (by kernel_rfl) (by kernel_rfl) (by kernel_rfl) (by kernel_rfl) i rfl rfl hi hv hr) ?_
 rintro _ _ ⟨rfl, rfl⟩
 refine TL.v (Val.assign rfl) ?_
 refine TL.nt ?_
 refine TC.en (E' := [(4, _)]) ?_
 refine TC.ret1 (fn := Tryz.f39) (fun _ _ h => h) rfl (RV.tmp rfl) (fun _ h => h) ?_
 exact ⟨rfl, rfl⟩

/-- quorumite/seal.New -/
theorem sNew_fn (s w : Int) (M : Hp) (hw : 0 ≤ w ∧ w ≤ 15) : FnC Tryz.prog 8 #[.int .u64 s, .int .i64 w] M (fun v M' => ∃ b, v = .pointer (some ⟨b, 0, none⟩) ∧ M' = sobj b s w 0 0 :: M) := by
 refine FnC.intro Tryz.func8 rfl 15 rfl (by simp) (fun z => ?_)
 refine TC.en (E' := [(0, _), (1, _)]) ?_
 refine TC.sr ?_
 refine TL.v (Val.assign rfl) ?_
 refine TL.nt ?_
 refine TC.seq ?_
 refine TC.sr ?_
 refine TL.v (Val.move rfl) ?_
 refine TL.v (Val.lss rfl rfl) ?_
 refine TL.v (Val.move rfl) ?_
 refine TL.gen (fun g1 hg1 => ?_)
 refine TL.gv rfl rfl rfl (fun hg => by subst hg; exact (Val.move rfl)) ?_
 refine TL.gv rfl rfl rfl (fun hg => by subst hg; exact (Val.geq rfl rfl)) ?_
 refine TL.v (Val.pickOr rfl rfl rfl) ?_
 refine TL.nt ?_
 refine TC.en (E' := [(0, _), (1, _), (4, _), (10, _)]) ?_
 refine TC.cond rfl (fun c1 => ?_) (fun c1 => ?_)
 ·
  (exfalso; grind)
 ·
  refine TC.en (E' := [(0, _), (1, _), (4, _)]) ?_
  refine TC.skip ?_
  refine AtX.then ?_
  refine TC.en (E' := [(0, _), (1, _), (4, _)]) ?_
  refine TC.sr ?_
  refine TL.v (Val.move rfl) ?_
  refine TL.v (Val.move rfl) ?_
  refine TL.v (Val.buildS pl94 ze94 rfl rfl) ?_
  refine TL.d (Does.box rfl rfl) ?_
  rintro _ _ ⟨b2, rfl, rfl⟩
  refine TL.v (Val.assign rfl) ?_
  refine TL.nt ?_
  refine TC.en (E' := [(4, _)]) ?_
  refine TC.ret1 (fn := Tryz.f8) (fun _ _ h => h) rfl (RV.tmp rfl) (fun _ h => h) ?_
  exact ⟨_, rfl, rfl⟩

/-- (*quorumite/seal.Sealer).Gen -/
theorem Gen_fn (b i : Nat) (s w g q : Int) (M : Hp) (hi : M[i]? = some (sobj b s w g q)) : FnC Tryz.prog 36 #[.pointer (some ⟨b, 0, none⟩)] M (fun v M' => v = .int .i64 g ∧ M = M') := by
 refine FnC.intro Tryz.func36 rfl 9 rfl (by simp) (fun z => ?_)
 refine TC.en (E' := [(0, _)]) ?_
 refine TC.sr ?_
 refine TL.v (Val.assign rfl) ?_
 refine TL.nt ?_
 refine TC.seq ?_
 refine TC.sr ?_
 refine TL.v (Val.move rfl) ?_
 refine TL.v (Val.eqlNil rfl rfl pt32) ?_
 refine TL.nt ?_
 refine TC.en (E' := [(0, _), (2, _), (4, _)]) ?_
 refine TC.cond rfl (fun c1 => ?_) (fun c1 => ?_)
 ·
  cases c1
 ·
  refine TC.en (E' := [(0, _), (2, _)]) ?_
  refine TC.skip ?_
  refine AtX.then ?_
  refine TC.en (E' := [(0, _), (2, _)]) ?_
  refine TC.sr ?_
  refine TL.v (Val.move rfl) ?_
  refine TL.v (Val.nilCheck rfl) ?_
  refine TL.v (Val.fieldAddr rfl fl94_2 sz3 rfl) ?_
  refine TL.v (Val.load i rfl ag3 hi rfl) ?_
  refine TL.v (Val.assign rfl) ?_
  refine TL.nt ?_
  refine TC.en (E' := [(2, _)]) ?_
  refine TC.ret1 (fn := Tryz.f36) (fun _ _ h => h) rfl (RV.tmp rfl) (fun _ h => h) ?_
  exact ⟨rfl, rfl⟩

/-- (*quorumite/seal.Sealer).Seq -/
theorem sSeal_fn (b i : Nat) (s w g q : Int) (m : Ms) (M : Hp) (hi : M[i]? = some (sobj b s w g q)) (hm : mayM ⟨m.kind, w, m.gen, q + 1, m.epoch, m.value, m.metric⟩ = true) : FnC Tryz.prog 35 #[.pointer (some ⟨b, 0, none⟩), .agg #[.int .i64 m.kind, .int .i64 m.who, .int .i64 m.gen, .int .i64 m.seq, .int .i64 m.epoch, .int .i64 m.value, .int .i64 m.metric]] M (fun v M' => ∃ bE c sp, v = .tuple #[.slice (some ⟨bE, 0, none⟩) 48 c, .int .i64 0] ∧ 48 + sp.length = c ∧ M' = (bE, row 5 (bv (sealB (macKey s w g) ⟨m.kind, w, m.gen, q + 1, m.epoch, m.value, m.metric⟩) ++ sp)) :: M.set i (sobj b s w g (q + 1))) := by
 obtain ⟨hk, hw, hg, hs, he, hme, hv⟩ := mayM_iff.1 hm
 simp only at hk hw hg hs he hme hv
 refine FnC.intro Tryz.func35 rfl 47 rfl (by simp) (fun z => ?_)
 refine TC.en (E' := [(0, _), (1, _)]) ?_
 refine TC.sr ?_
 refine TL.d (Does.box rfl rfl) ?_
 rintro _ _ ⟨b1, rfl, rfl⟩
 refine TL.v (Val.assign rfl) ?_
 refine TL.v (Val.assign rfl) ?_
 refine TL.nt ?_
 refine TC.en (E' := [(0, _), (3, _), (4, _), (5, _)]) ?_
 refine TC.seq ?_
 refine TC.sr ?_
 refine TL.v (Val.move rfl) ?_
 refine TL.v (Val.eqlNil rfl rfl pt32) ?_
 refine TL.nt ?_
 refine TC.en (E' := [(0, _), (3, _), (4, _), (5, _), (9, _)]) ?_
 refine TC.cond rfl (fun c1 => ?_) (fun c1 => ?_)
 ·
  cases c1
 ·
  refine TC.en (E' := [(0, _), (3, _), (4, _), (5, _)]) ?_
  refine TC.skip ?_
  refine AtX.then ?_
  refine TC.en (E' := [(0, _), (3, _), (4, _), (5, _)]) ?_
  refine TC.seq ?_
  refine TC.drawL M mixed 13 ?_
  refine TA.tk 0 1 rfl rfl rfl (Val.move rfl) ?_
  refine TA.tk 1 3 rfl rfl rfl (Val.nilCheck rfl) ?_
  refine TA.tk 2 7 rfl rfl rfl (Val.fieldAddr rfl fl94_1 sz3 rfl) ?_
  refine TA.tk 3 15 rfl rfl rfl (Val.load i rfl ag3 hi rfl) ?_
  refine TA.tk 4 31 rfl rfl rfl (Val.move rfl) ?_
  refine TA.tk 5 63 rfl rfl rfl (Val.nilCheck rfl) ?_
  refine TA.tk 6 127 rfl rfl rfl (Val.fieldAddr rfl fl94_3 sz88 rfl) ?_
  refine TA.tk 9 639 rfl rfl rfl (Val.fieldAddr rfl fl39_1 sz3 rfl) ?_
  refine TA.one 7 (by kernel_rfl) ?_
  refine TO.dz 767 (some 17) rfl rfl rfl rfl (Does.callF go65 rfl (aLoad_fn b 3 (i + 1) _ _ _ q _ hi rfl)) ?_
  rintro _ _ ⟨rfl, rfl⟩
  refine roK ?_
  refine TA.tk 8 1023 rfl rfl rfl (Val.add rfl rfl (r := q + 1) (w_i64 (by omega) (by omega))) ?_
  refine TA.one 10 (by kernel_rfl) ?_
  refine TO.dz 2047 none rfl rfl rfl rfl (Does.store (i := 0) rfl rfl rfl sz3 rfl rfl (by first | exact Nat.le_of_ble_eq_true rfl | decide | omega) rfl rfl) ?_
  rintro _ _ ⟨rfl, rfl⟩
  refine roK ?_
  refine TA.tk 11 4095 rfl rfl rfl (Val.fieldAddr rfl fl39_3 sz2 rfl) ?_
  refine TA.one 12 (by kernel_rfl) ?_
  refine TO.dz 8191 none rfl rfl rfl rfl (Does.store (i := 0) rfl rfl rfl sz2 rfl rfl (by first | exact Nat.le_of_ble_eq_true rfl | decide | omega) rfl rfl) ?_
  rintro _ _ ⟨rfl, rfl⟩
  refine roK ?_
  refine TA.done (by kernel_rfl) ?_
  refine AtX.then ?_
  refine TC.en (E' := [(0, _), (3, _), (4, _), (5, _)]) ?_
  refine TC.seq ?_
  refine TC.drawLM mixed 20 ?_
  refine TA.tk 0 1 rfl rfl rfl (Val.move rfl) ?_
  refine TA.tk 1 3 rfl rfl rfl (Val.nilCheck rfl) ?_
  refine TA.tk 2 7 rfl rfl rfl (Val.fieldAddr rfl fl94_0 sz24 rfl) ?_
  refine TA.tk 3 15 rfl rfl rfl (Val.load (i + 1) rfl ag24 hi rfl) ?_
  refine TA.tk 4 31 rfl rfl rfl (Val.move rfl) ?_
  refine TA.tk 5 63 rfl rfl rfl (Val.nilCheck rfl) ?_
  refine TA.tk 6 127 rfl rfl rfl (Val.fieldAddr rfl fl94_1 sz3 rfl) ?_
  refine TA.tk 7 255 rfl rfl rfl (Val.load (i + 1) rfl ag3 hi rfl) ?_
  refine TA.tk 8 511 rfl rfl rfl (Val.move rfl) ?_
  refine TA.tk 9 1023 rfl rfl rfl (Val.nilCheck rfl) ?_
  refine TA.tk 10 2047 rfl rfl rfl (Val.fieldAddr rfl fl94_2 sz3 rfl) ?_
  refine TA.tk 11 4095 rfl rfl rfl (Val.load (i + 1) rfl ag3 hi rfl) ?_
  refine TA.tk 13 12287 rfl rfl rfl (Val.loadAgg 0 rfl ag39 sz39 rfl rfl rfl) ?_
  refine TA.one 12 (by kernel_rfl) ?_
  refine TO.dz 16383 (some 34) rfl rfl rfl rfl (Does.callF go67 rfl (Of_fn s w g _)) ?_
  rintro _ _ ⟨rfl, rfl⟩
  refine roK ?_
  refine TA.one 14 (by kernel_rfl) ?_
  refine TO.dz 32767 (some 36) rfl rfl rfl rfl (Does.callF go66 rfl (wSeal_fn (macKey s w g) ⟨m.kind, w, m.gen, q + 1, m.epoch, m.value, m.metric⟩ _ hm)) ?_
  rintro _ _ ⟨bE, cE, spE, rfl, hcE, rfl⟩
  refine roK ?_
  refine TA.tk 15 65535 rfl rfl rfl (Val.move rfl) ?_
  refine TA.tk 16 131071 rfl rfl rfl (Val.extract rfl rfl) ?_
  refine TA.tk 17 262143 rfl rfl rfl (Val.extract rfl rfl) ?_
  refine TA.tk 18 524287 rfl rfl rfl (Val.assign rfl) ?_
  refine TA.tk 19 1048575 rfl rfl rfl (Val.assign rfl) ?_
  refine TA.done (by kernel_rfl) ?_
  refine AtX.then ?_
  refine TC.en (E' := [(0, _), (4, _), (5, _), (6, _), (7, _)]) ?_
  refine TC.seq ?_
  refine TC.sr ?_
  refine TL.v (Val.move rfl) ?_
  refine TL.v (Val.eqlI rfl rfl) ?_
  refine TL.nt ?_
  refine TC.en (E' := [(0, _), (4, _), (5, _), (6, _), (7, _), (40, _)]) ?_
  refine TC.condP rfl (fun c2 => ?_) (fun c2 => ?_)
  ·
   refine TC.en (E' := [(0, _), (4, _), (5, _), (6, _), (7, _)]) ?_
   refine TC.region ?_
   refine TL.v (Val.move rfl) ?_
   refine TL.v (Val.nilCheck rfl) ?_
   refine TL.v (Val.fieldAddr rfl fl94_3 sz88 rfl) ?_
   refine TL.d (Does.callF go39 rfl (aAdd_fn b 3 (i + 2) _ _ q 1 (q + 1) _ hi rfl (w_i64 (by omega) (by omega)))) ?_
   rintro _ _ ⟨rfl, rfl⟩
   refine TL.nt ?_
   refine TC.en (E' := [(4, _), (5, _), (6, _), (7, _)]) ?_
   refine TC.sr ?_
   refine TL.v (Val.move rfl) ?_
   refine TL.v (Val.move rfl) ?_
   refine TL.v (Val.assign rfl) ?_
   refine TL.v (Val.assign rfl) ?_
   refine TL.nt ?_
   refine TC.en (E' := [(4, _), (5, _)]) ?_
   refine TC.ret2 (fn := Tryz.f35) (fun _ _ h => h) rfl (RV.tmp rfl) (RV.tmp rfl) (M' := (bE, row 5 (bv (sealB (macKey s w g) ⟨m.kind, w, m.gen, q + 1, m.epoch, m.value, m.metric⟩) ++ spE)) :: M.set i (sobj b s w g (q + 1))) (fun w h => ro_del 1 rfl w h) ?_
   exact ⟨bE, _, spE, rfl, hcE, rfl⟩
  ·
   exact absurd rfl c2

/-- (*quorumite/seal.Sealer).Sample -/
theorem sSample_fn (b i : Nat) (s w g q : Int) (me e v : Int) (M : Hp) (hi : M[i]? = some (sobj b s w g q)) (hm : mayM ⟨1, w, g, q + 1, e, v, me⟩ = true) : FnC Tryz.prog 9 #[.pointer (some ⟨b, 0, none⟩), .int .i64 me, .int .i64 e, .int .i64 v] M (fun u M' => ∃ bE c sp, u = .tuple #[.slice (some ⟨bE, 0, none⟩) 48 c, .int .i64 0] ∧ 48 + sp.length = c ∧ M' = (bE, row 5 (bv (sealB (macKey s w g) ⟨1, w, g, q + 1, e, v, me⟩) ++ sp)) :: M.set i (sobj b s w g (q + 1))) := by
 obtain ⟨hk, hw, hg, hs, he, hme, hv⟩ := mayM_iff.1 hm
 simp only at hk hw hg hs he hme hv
 refine FnC.intro Tryz.func9 rfl 21 rfl (by simp) (fun z => ?_)
 refine TC.en (E' := [(0, _), (1, _), (2, _), (3, _)]) ?_
 refine TC.sr ?_
 refine TL.v (Val.assign rfl) ?_
 refine TL.v (Val.assign rfl) ?_
 refine TL.nt ?_
 refine TC.sr ?_
 refine TL.v (Val.move rfl) ?_
 refine TL.v (Val.move rfl) ?_
 refine TL.d (Does.callF go36 rfl (Gen_fn b i s w g q _ hi)) ?_
 rintro _ _ ⟨rfl, rfl⟩
 refine TL.v (Val.max rfl rfl (r := g) (by split <;> omega)) ?_
 refine TL.v (Val.move rfl) ?_
 refine TL.v (Val.move rfl) ?_
 refine TL.v (Val.move rfl) ?_
 refine TL.v (Val.buildS pl39 ze39 rfl rfl) ?_
 refine TL.d (Does.callF go35 rfl (sSeal_fn b i s w g q ⟨1, 0, g, 0, e, v, me⟩ _ hi hm)) ?_
 rintro _ _ ⟨bE, cE, spE, rfl, hcE, rfl⟩
 refine TL.v (Val.extract rfl rfl) ?_
 refine TL.v (Val.extract rfl rfl) ?_
 refine TL.v (Val.assign rfl) ?_
 refine TL.v (Val.assign rfl) ?_
 refine TL.nt ?_
 refine TC.en (E' := [(8, _), (9, _)]) ?_
 refine TC.ret2 (fn := Tryz.f9) (fun _ _ h => h) rfl (RV.tmp rfl) (RV.tmp rfl) (fun _ h => h) ?_
 exact ⟨bE, _, spE, rfl, hcE, rfl⟩

/-- (*quorumite/seal.Sealer).Rotate -/
theorem sRotate_fn (b i : Nat) (s w g q : Int) (e : Int) (M : Hp) (hi : M[i]? = some (sobj b s w g q)) (hm : mayM ⟨2, w, g + 1, q + 1, e, 0, 0⟩ = true) : FnC Tryz.prog 46 #[.pointer (some ⟨b, 0, none⟩), .int .i64 e] M (fun v M' => ∃ bE c sp, v = .tuple #[.slice (some ⟨bE, 0, none⟩) 48 c, .int .i64 0] ∧ 48 + sp.length = c ∧ M' = (bE, row 5 (bv (sealB (macKey s w g) ⟨2, w, g + 1, q + 1, e, 0, 0⟩) ++ sp)) :: M.set i (sobj b s w (g + 1) 0)) := by
 obtain ⟨hk, hw, hg, hs, he, hme, hv⟩ := mayM_iff.1 hm
 simp only at hk hw hg hs he hme hv
 have hlt : i < M.length := (List.getElem?_eq_some_iff.1 hi).1
 refine FnC.intro Tryz.func46 rfl 33 rfl (by simp) (fun z => ?_)
 refine TC.en (E' := [(0, _), (1, _)]) ?_
 refine TC.sr ?_
 refine TL.v (Val.assign rfl) ?_
 refine TL.v (Val.assign rfl) ?_
 refine TL.nt ?_
 refine TC.sr ?_
 refine TL.v (Val.move rfl) ?_
 refine TL.v (Val.move rfl) ?_
 refine TL.d (Does.callF go36 rfl (Gen_fn b i s w g q _ hi)) ?_
 rintro _ _ ⟨rfl, rfl⟩
 refine TL.v (Val.add rfl rfl (r := g + 1) (w_i64 (by omega) (by omega))) ?_
 refine TL.v (Val.move rfl) ?_
 refine TL.v (Val.buildS pl39 ze39 rfl rfl) ?_
 refine TL.d (Does.callF go35 rfl (sSeal_fn b i s w g q ⟨2, 0, g + 1, 0, e, 0, 0⟩ _ hi hm)) ?_
 rintro _ _ ⟨bE, cE, spE, rfl, hcE, rfl⟩
 refine TL.v (Val.move rfl) ?_
 refine TL.v (Val.extract rfl rfl) ?_
 refine TL.v (Val.extract rfl rfl) ?_
 refine TL.v (Val.assign rfl) ?_
 refine TL.v (Val.assign rfl) ?_
 refine TL.nt ?_
 refine TC.en (E' := [(0, _), (4, _), (5, _), (6, _), (7, _)]) ?_
 refine TC.seq ?_
 refine TC.sr ?_
 refine TL.v (Val.move rfl) ?_
 refine TL.v (Val.eqlI rfl rfl) ?_
 refine TL.nt ?_
 refine TC.en (E' := [(0, _), (4, _), (5, _), (6, _), (7, _), (19, _)]) ?_
 refine TC.condP rfl (fun c1 => ?_) (fun c1 => ?_)
 ·
  refine TC.en (E' := [(0, _), (4, _), (5, _), (6, _), (7, _)]) ?_
  refine TC.seq ?_
  have hi2 : ((bE, row 5 (bv (sealB (macKey s w g) ⟨2, w, g + 1, q + 1, e, 0, 0⟩) ++ spE)) :: M.set i (sobj b s w g (q + 1)))[i + 1]? = some (sobj b s w g (q + 1)) := by simp [hlt]
  refine TC.region ?_
  refine TL.v (Val.move rfl) ?_
  refine TL.v (Val.nilCheck rfl) ?_
  refine TL.v (Val.fieldAddr rfl fl94_2 sz3 rfl) ?_
  refine TL.v (Val.load (i + 1) rfl ag3 hi2 rfl) ?_
  refine TL.v (Val.add rfl rfl (r := g + 1) (w_i64 (by omega) (by omega))) ?_
  refine TL.v (Val.nilCheck rfl) ?_
  refine TL.v (Val.fieldAddr rfl fl94_2 sz3 rfl) ?_
  refine TL.d (Does.store (i := i + 1) (M' := (bE, row 5 (bv (sealB (macKey s w g) ⟨2, w, g + 1, q + 1, e, 0, 0⟩) ++ spE)) :: M.set i (sobj b s w (g + 1) (q + 1))) rfl rfl hi2 sz3 rfl rfl (by first | exact Nat.le_of_ble_eq_true rfl | decide | omega) rfl (by rw [List.set_cons_succ, List.set_set]; rfl)) ?_
  rintro _ _ ⟨rfl, rfl⟩
  refine TL.nt ?_
  refine TC.en (E' := [(0, _), (4, _), (5, _), (6, _), (7, _)]) ?_
  have hi3 : ((bE, row 5 (bv (sealB (macKey s w g) ⟨2, w, g + 1, q + 1, e, 0, 0⟩) ++ spE)) :: M.set i (sobj b s w (g + 1) (q + 1)))[i + 1]? = some (sobj b s w (g + 1) (q + 1)) := by simp [hlt]
  refine TC.region ?_
  refine TL.v (Val.move rfl) ?_
  refine TL.v (Val.nilCheck rfl) ?_
  refine TL.v (Val.fieldAddr rfl fl94_3 sz88 rfl) ?_
  refine TL.d (Does.callF go79 rfl (aStore_fn b 3 (i + 1) _ _ 0 _ hi3 (by simp))) ?_
  rintro _ _ ⟨rfl, rfl⟩
  refine TL.nt ?_
  refine TC.en (E' := [(4, _), (5, _), (6, _), (7, _)]) ?_
  refine TC.sr ?_
  refine TL.v (Val.move rfl) ?_
  refine TL.v (Val.move rfl) ?_
  refine TL.v (Val.assign rfl) ?_
  refine TL.v (Val.assign rfl) ?_
  refine TL.nt ?_
  refine TC.en (E' := [(4, _), (5, _)]) ?_
  refine TC.ret2 (fn := Tryz.f46) (fun _ _ h => h) rfl (RV.tmp rfl) (RV.tmp rfl) (M' := (bE, row 5 (bv (sealB (macKey s w g) ⟨2, w, g + 1, q + 1, e, 0, 0⟩) ++ spE)) :: M.set i (sobj b s w (g + 1) 0)) (fun w h => by rw [List.set_cons_succ, List.set_set] at h; exact h) ?_
  exact ⟨bE, _, spE, rfl, hcE, rfl⟩
 ·
  exact absurd rfl c1

end Go.Proofs.YtphoapajlcaoeaaGreat
/- walks -/
set_option linter.unusedVariables false
set_option linter.unusedSimpArgs false
set_option maxRecDepth 100000
set_option maxHeartbeats 4000000
namespace Go.Proofs.YtphoapajlcaoeaaGreat
open Go Go.X
/-- quorumite/conf.Default -/
theorem Default_fn (M : Hp) : FnC Tryz.prog 44 #[] M (fun v M' => v = .agg cfD.cs ∧ M = M') := by
 refine FnC.intro Tryz.func44 rfl 3 rfl (by simp) (fun z => ?_)
 refine TC.en (E' := []) ?_
 refine TC.sr ?_
 refine TL.d (Does.alloc ze26 rfl) ?_
 rintro _ _ ⟨b1, rfl, rfl⟩
 refine TL.nt ?_
 refine TC.sr ?_
 refine TL.v (Val.buildA ar23 sz2 ze23 rfl rfl) ?_
 refine TL.v (Val.buildS pl26 ze26 rfl rfl) ?_
 refine TL.d (Does.store (i := 0) rfl rfl rfl sz26 rfl rfl (by first | exact Nat.le_of_ble_eq_true rfl | decide | omega) rfl rfl) ?_
 rintro _ _ ⟨rfl, rfl⟩
 refine TL.nt ?_
 refine TC.en (E' := [(0, _)]) ?_
 refine TC.ret1 (fn := Tryz.f44) (fun _ _ h => h) rfl (RV.agg (i := 0) rfl ag26 sz26 rfl rfl rfl) (M' := M) (by repeat (first | exact ro_refl | exact ro_pre | refine ro_tail ?_ | refine ro_app ?_)) ?_
 exact ⟨rfl, rfl⟩

/-- quorumite/quorumiteref1.Default -/
theorem refDefault_fn (M : Hp) : FnC Tryz.prog 28 #[] M (fun v M' => v = .agg cfD.cs ∧ M = M') := by
 refine FnC.intro Tryz.func28 rfl 3 rfl (by simp) (fun z => ?_)
 refine TC.en (E' := []) ?_
 refine TC.sr ?_
 refine TL.d (Does.alloc ze26 rfl) ?_
 rintro _ _ ⟨b1, rfl, rfl⟩
 refine TL.nt ?_
 refine TC.sr ?_
 refine TL.v (Val.buildA ar23 sz2 ze23 rfl rfl) ?_
 refine TL.v (Val.buildS pl26 ze26 rfl rfl) ?_
 refine TL.d (Does.store (i := 0) rfl rfl rfl sz26 rfl rfl (by first | exact Nat.le_of_ble_eq_true rfl | decide | omega) rfl rfl) ?_
 rintro _ _ ⟨rfl, rfl⟩
 refine TL.nt ?_
 refine TC.en (E' := [(0, _)]) ?_
 refine TC.ret1 (fn := Tryz.f28) (fun _ _ h => h) rfl (RV.agg (i := 0) rfl ag26 sz26 rfl rfl rfl) (M' := M) (by repeat (first | exact ro_refl | exact ro_pre | refine ro_tail ?_ | refine ro_app ?_)) ?_
 exact ⟨rfl, rfl⟩

/-- quorumite/conf.targets -/
theorem targets_fn (c : Cf) (M : Hp) (ht : tg c) : FnC Tryz.prog 100 #[.agg #[.int .i64 (c.n), .int .i64 (c.f), .int .i64 (c.m), .int .i64 (c.quorum), .int .i64 (c.fresh), .int .i64 (c.grace), .int .i64 (c.window), .int .i64 (c.t0), .int .i64 (c.t1), .int .i64 (c.t2), .int .i64 (c.t3), .int .i64 (c.tol), .int .i64 (c.min), .int .i64 (c.max), .int .i64 (c.calmup), .int .i64 (c.calmdown), .int .i64 (c.podsup), .int .i64 (c.pctup), .int .i64 (c.podsdown), .int .i64 (c.pctdown), .int .i64 (c.period), .int .i64 (c.far), .int .i64 (c.strikes), .int .i64 (c.probe), .int .i64 (c.sectors), .int .u64 (c.seed)]] M (fun v M' => v = .int .i64 1 ∧ M = M') := by
 refine FnC.intro Tryz.func100 rfl 34 rfl (by simp) (fun z => ?_)
 refine TC.en (E' := [(0, _)]) ?_
 refine TC.sr ?_
 refine TL.d (Does.box rfl rfl) ?_
 rintro _ _ ⟨b1, rfl, rfl⟩
 refine TL.v (Val.assign rfl) ?_
 refine TL.nt ?_
 refine TC.en (E' := [(1, _), (2, _)]) ?_
 refine TC.seq ?_
 refine TC.sr ?_
 refine TL.v (Val.fieldAddr rfl fl26_7 sz23 rfl) ?_
 refine TL.v (Val.loadAgg 0 rfl ag23 sz23 rfl rfl rfl) ?_
 refine TL.v (Val.move rfl) ?_
 refine TL.nt ?_
 refine TC.en (E' := [(1, _), (2, _), (6, _), (7, _)]) ?_
 refine TC.block ?_
 refine TC.loop (ι := Nat) (fun k => [(1, .pointer (some ⟨b1, 0, none⟩)), (6, .agg (c.ts.map (Value.int .i64)).toArray), (7, .int .i64 (k : Nat))]) (fun _ => ((b1, .cells #[.int .i64 (c.n), .int .i64 (c.f), .int .i64 (c.m), .int .i64 (c.quorum), .int .i64 (c.fresh), .int .i64 (c.grace), .int .i64 (c.window), .int .i64 (c.t0), .int .i64 (c.t1), .int .i64 (c.t2), .int .i64 (c.t3), .int .i64 (c.tol), .int .i64 (c.min), .int .i64 (c.max), .int .i64 (c.calmup), .int .i64 (c.calmdown), .int .i64 (c.podsup), .int .i64 (c.pctup), .int .i64 (c.podsdown), .int .i64 (c.pctdown), .int .i64 (c.period), .int .i64 (c.far), .int .i64 (c.strikes), .int .i64 (c.probe), .int .i64 (c.sectors), .int .u64 (c.seed)] 26 (0, 0)) :: M)) (fun k => k ≤ 4) (fun k => 4 - k) 0 ?_ (Sub.cons rfl (Sub.cons rfl (Sub.cons rfl (Sub.nil _)))) (fun _ h => h) ?_
 · exact Nat.zero_le _
 intro k hk
 refine TC.sr ?_
 refine TL.v (Val.lss rfl rfl) ?_
 refine TL.nt ?_
 refine TC.seq ?_
 refine TC.condP rfl (fun c1 => ?_) (fun c1 => ?_)
 ·
  refine TC.skip ?_
  refine AtX.then ?_
  refine TC.seq ?_
  refine TC.block ?_
  refine TC.seq ?_
  have hk4 : k < 4 := by omega
  obtain ⟨x, hx⟩ : ∃ x, c.ts[k]? = some x := ⟨_, List.getElem?_eq_getElem (by show k < 4; omega)⟩
  have hx2 := ht k x hx
  refine TC.region ?_
  refine TL.v (Val.move rfl) ?_
  refine TL.v (Val.indexA (i := k) rfl rfl ar23 sz2 ag2 rfl hk4 (v := .int .i64 x) (by rw [Nat.mul_one]; exact nth_map hx)) ?_
  refine TL.v (Val.assign rfl) ?_
  refine TL.v (Val.assign rfl) ?_
  refine TL.nt ?_
  refine TC.sr ?_
  refine TL.v (Val.move rfl) ?_
  refine TL.v (Val.fieldAddr rfl fl26_2 sz3 rfl) ?_
  refine TL.v (Val.load 0 rfl ag3 rfl rfl) ?_
  refine TL.v (Val.lss rfl rfl) ?_
  refine TL.v (Val.move rfl) ?_
  refine TL.gen (fun g2 hg2 => ?_)
  cases g2 with
  | false =>
   refine TL.pa ?_
   refine TL.pa ?_
   refine TL.pa ?_
   refine TL.pu ?_
   refine TL.pu ?_
   refine TL.pa ?_
   refine TL.v (Val.pick rfl rfl rfl) ?_
   refine TL.v (Val.move rfl) ?_
   refine TL.gen (fun g3 hg3 => ?_)
   cases g3 with
   | false =>
    refine TL.vy (Val.move rfl) ?_
    refine TL.vy (Val.fieldAddr rfl fl26_2 sz3 rfl) ?_
    refine TL.vy (Val.load 0 rfl ag3 rfl rfl) ?_
    refine TL.vy (Val.geq rfl rfl) ?_
    refine TL.vy (Val.move rfl) ?_
    refine TL.gen (fun g4 hg4 => ?_)
    refine TL.gv rfl rfl rfl (fun hg => by subst hg; exact (Val.move rfl)) ?_
    refine TL.gv rfl rfl rfl (fun hg => by subst hg; exact (Val.neqI rfl rfl)) ?_
    refine TL.vy (Val.pickAnd rfl rfl rfl) ?_
    refine TL.v (Val.pickOr rfl rfl rfl) ?_
    refine TL.nt ?_
    refine TC.cond rfl (fun c2 => ?_) (fun c2 => ?_)
    ·
     (exfalso; clear ht hx; grind)
    ·
     refine TC.skip ?_
     refine AtX.blk ?_
     refine AtX.then ?_
     refine TC.region ?_
     refine TL.v (Val.add rfl rfl (w_i64 (by omega) (by omega))) ?_
     refine TL.v (Val.move rfl) ?_
     refine TL.nil ?_
     refine AtX.round (k + 1) ?_ ?_ (Sub.cons rfl (Sub.cons rfl (Sub.cons rfl (Sub.nil _)))) (fun _ h => h)
     · omega
     · omega
   | true =>
    refine TL.pa ?_
    refine TL.pa ?_
    refine TL.pa ?_
    refine TL.pa ?_
    refine TL.pa ?_
    refine TL.pu ?_
    refine TL.pu ?_
    refine TL.pa ?_
    refine TL.v (Val.pick rfl rfl rfl) ?_
    refine TL.nt ?_
    refine TC.cond rfl (fun c3 => ?_) (fun c3 => ?_)
    ·
     (exfalso; clear ht hx; grind)
    ·
     refine TC.skip ?_
     refine AtX.blk ?_
     refine AtX.then ?_
     refine TC.region ?_
     refine TL.v (Val.add rfl rfl (w_i64 (by omega) (by omega))) ?_
     refine TL.v (Val.move rfl) ?_
     refine TL.nil ?_
     refine AtX.round (k + 1) ?_ ?_ (Sub.cons rfl (Sub.cons rfl (Sub.cons rfl (Sub.nil _)))) (fun _ h => h)
     · omega
     · omega
  | true =>
   refine TL.vy (Val.move rfl) ?_
   refine TL.vy (Val.lss rfl rfl) ?_
   refine TL.vy (Val.move rfl) ?_
   refine TL.gen (fun g5 hg5 => ?_)
   refine TL.gv rfl rfl rfl (fun hg => by subst hg; exact (Val.move rfl)) ?_
   refine TL.gv rfl rfl rfl (fun hg => by subst hg; exact (Val.gtr rfl rfl)) ?_
   refine TL.vy (Val.pickOr rfl rfl rfl) ?_
   refine TL.v (Val.pickAnd rfl rfl rfl) ?_
   refine TL.v (Val.move rfl) ?_
   refine TL.gen (fun g6 hg6 => ?_)
   cases g6 with
   | false =>
    refine TL.vy (Val.move rfl) ?_
    refine TL.vy (Val.fieldAddr rfl fl26_2 sz3 rfl) ?_
    refine TL.vy (Val.load 0 rfl ag3 rfl rfl) ?_
    refine TL.vy (Val.geq rfl rfl) ?_
    refine TL.vy (Val.move rfl) ?_
    refine TL.gen (fun g7 hg7 => ?_)
    refine TL.gv rfl rfl rfl (fun hg => by subst hg; exact (Val.move rfl)) ?_
    refine TL.gv rfl rfl rfl (fun hg => by subst hg; exact (Val.neqI rfl rfl)) ?_
    refine TL.vy (Val.pickAnd rfl rfl rfl) ?_
    refine TL.v (Val.pickOr rfl rfl rfl) ?_
    refine TL.nt ?_
    refine TC.cond rfl (fun c4 => ?_) (fun c4 => ?_)
    ·
     (exfalso; clear ht hx; grind)
    ·
     refine TC.skip ?_
     refine AtX.blk ?_
     refine AtX.then ?_
     refine TC.region ?_
     refine TL.v (Val.add rfl rfl (w_i64 (by omega) (by omega))) ?_
     refine TL.v (Val.move rfl) ?_
     refine TL.nil ?_
     refine AtX.round (k + 1) ?_ ?_ (Sub.cons rfl (Sub.cons rfl (Sub.cons rfl (Sub.nil _)))) (fun _ h => h)
     · omega
     · omega
   | true =>
    refine TL.pa ?_
    refine TL.pa ?_
    refine TL.pa ?_
    refine TL.pa ?_
    refine TL.pa ?_
    refine TL.pu ?_
    refine TL.pu ?_
    refine TL.pa ?_
    refine TL.v (Val.pick rfl rfl rfl) ?_
    refine TL.nt ?_
    refine TC.cond rfl (fun c5 => ?_) (fun c5 => ?_)
    ·
     (exfalso; clear ht hx; grind)
    ·
     refine TC.skip ?_
     refine AtX.blk ?_
     refine AtX.then ?_
     refine TC.region ?_
     refine TL.v (Val.add rfl rfl (w_i64 (by omega) (by omega))) ?_
     refine TL.v (Val.move rfl) ?_
     refine TL.nil ?_
     refine AtX.round (k + 1) ?_ ?_ (Sub.cons rfl (Sub.cons rfl (Sub.cons rfl (Sub.nil _)))) (fun _ h => h)
     · omega
     · omega
 ·
  refine TC.exit ?_
  refine AtX.seqX ?_
  refine AtX.seqX ?_
  refine AtX.hit ?_
  refine AtX.then ?_
  refine TC.en (E' := []) ?_
  refine TC.sr ?_
  refine TL.v (Val.assign rfl) ?_
  refine TL.nt ?_
  refine TC.en (E' := [(2, _)]) ?_
  refine TC.ret1 (fn := Tryz.f100) (fun _ _ h => h) rfl (RV.tmp rfl) (M' := M) (by repeat (first | exact ro_refl | exact ro_pre | refine ro_tail ?_ | refine ro_app ?_)) ?_
  exact ⟨rfl, rfl⟩

/-- quorumite/conf.parts$1 -/
theorem clo_fn (x : Int) (M : Hp) : FnC Tryz.prog 99 #[.int .i64 x] M (fun v M' => v = .int .i64 x ∧ M = M') := by
 refine FnC.intro Tryz.func99 rfl 4 rfl (by simp) (fun z => ?_)
 refine TC.en (E' := [(0, _)]) ?_
 refine TC.sr ?_
 refine TL.v (Val.assign rfl) ?_
 refine TL.nt ?_
 refine TC.sr ?_
 refine TL.v (Val.move rfl) ?_
 refine TL.v (Val.assign rfl) ?_
 refine TL.nt ?_
 refine TC.en (E' := [(2, _)]) ?_
 refine TC.ret1 (fn := Tryz.f99) (fun _ _ h => h) rfl (RV.tmp rfl) (fun _ h => h) ?_
 exact ⟨rfl, rfl⟩

end Go.Proofs.YtphoapajlcaoeaaGreat
/- walks -/
set_option linter.unusedVariables false
set_option linter.unusedSimpArgs false
set_option maxRecDepth 100000
set_option maxHeartbeats 4000000
namespace Go.Proofs.YtphoapajlcaoeaaGreat
open Go Go.X
/-- quorumite/conf.parts -/
theorem parts_fn (c : Cf) (M : Hp) (hn : 0 ≤ c.n ∧ c.n ≤ 1000) (hf : 0 ≤ c.f ∧ c.f ≤ 16) (ht : tg c) : FnC Tryz.prog 86 #[.agg #[.int .i64 (c.n), .int .i64 (c.f), .int .i64 (c.m), .int .i64 (c.quorum), .int .i64 (c.fresh), .int .i64 (c.grace), .int .i64 (c.window), .int .i64 (c.t0), .int .i64 (c.t1), .int .i64 (c.t2), .int .i64 (c.t3), .int .i64 (c.tol), .int .i64 (c.min), .int .i64 (c.max), .int .i64 (c.calmup), .int .i64 (c.calmdown), .int .i64 (c.podsup), .int .i64 (c.pctup), .int .i64 (c.podsdown), .int .i64 (c.pctdown), .int .i64 (c.period), .int .i64 (c.far), .int .i64 (c.strikes), .int .i64 (c.probe), .int .i64 (c.sectors), .int .u64 (c.seed)]] M (fun v M' => ∃ b, v = .slice (some ⟨b, 0, none⟩) 22 22 ∧ M' = (b, row 157 ((partsL c c.f 1).flatMap Pt.cs)) :: M) := by
 refine FnC.intro Tryz.func86 rfl 135 rfl (by simp) (fun z => ?_)
 refine TC.en (E' := [(0, _)]) ?_
 refine TC.sr ?_
 refine TL.d (Does.box rfl rfl) ?_
 rintro _ _ ⟨b1, rfl, rfl⟩
 refine TL.v (Val.assign rfl) ?_
 refine TL.nt ?_
 refine TC.en (E' := [(1, _), (2, _)]) ?_
 refine TC.sr ?_
 refine TL.v (Val.assign rfl) ?_
 refine TL.nt ?_
 refine TC.en (E' := [(1, _), (2, _), (3, _)]) ?_
 refine TC.sr ?_
 refine TL.v (Val.move rfl) ?_
 refine TL.v (Val.fieldAddr rfl fl26_1 sz3 rfl) ?_
 refine TL.v (Val.load 0 rfl ag3 rfl rfl) ?_
 refine TL.v (Val.max rfl rfl (r := c.f) (by split <;> omega)) ?_
 refine TL.v (Val.min rfl rfl (r := c.f) (by split <;> omega)) ?_
 refine TL.d (Does.callV rfl go99 rfl (clo_fn _ _)) ?_
 rintro _ _ ⟨rfl, rfl⟩
 refine TL.v (Val.assign rfl) ?_
 refine TL.nt ?_
 refine TC.en (E' := [(1, _), (2, _), (3, _), (4, _)]) ?_
 refine TC.seq ?_
 refine TC.drawF ((b1, .cells #[.int .i64 (c.n), .int .i64 (c.f), .int .i64 (c.m), .int .i64 (c.quorum), .int .i64 (c.fresh), .int .i64 (c.grace), .int .i64 (c.window), .int .i64 (c.t0), .int .i64 (c.t1), .int .i64 (c.t2), .int .i64 (c.t3), .int .i64 (c.tol), .int .i64 (c.min), .int .i64 (c.max), .int .i64 (c.calmup), .int .i64 (c.calmdown), .int .i64 (c.podsup), .int .i64 (c.pctup), .int .i64 (c.podsdown), .int .i64 (c.pctdown), .int .i64 (c.period), .int .i64 (c.far), .int .i64 (c.strikes), .int .i64 (c.probe), .int .i64 (c.sectors), .int .u64 (c.seed)] 26 (0, 0)) :: M) mixed 125 (by kernel_rfl) (by kernel_rfl) ?_
 refine TF.tk 0 1 rfl rfl rfl (Val.move rfl) ?_
 refine TF.tk 1 3 rfl rfl rfl (Val.fieldAddr rfl fl26_0 sz3 rfl) ?_
 refine TF.tk 2 7 rfl rfl rfl (Val.load 0 rfl ag3 rfl rfl) ?_
 refine TF.tk 5 39 rfl rfl rfl (Val.move rfl) ?_
 refine TF.tk 6 103 rfl rfl rfl (Val.fieldAddr rfl fl26_1 sz3 rfl) ?_
 refine TF.tk 7 231 rfl rfl rfl (Val.load 0 rfl ag3 rfl rfl) ?_
 refine TF.tk 9 743 rfl rfl rfl (Val.move rfl) ?_
 refine TF.tk 10 1767 rfl rfl rfl (Val.fieldAddr rfl fl26_0 sz3 rfl) ?_
 refine TF.tk 11 3815 rfl rfl rfl (Val.load 0 rfl ag3 rfl rfl) ?_
 refine TF.tk 16 69351 rfl rfl rfl (Val.move rfl) ?_
 refine TF.tk 17 200423 rfl rfl rfl (Val.fieldAddr rfl fl26_2 sz3 rfl) ?_
 refine TF.tk 18 462567 rfl rfl rfl (Val.load 0 rfl ag3 rfl rfl) ?_
 refine TF.tk 21 2559719 rfl rfl rfl (Val.move rfl) ?_
 refine TF.tk 22 6754023 rfl rfl rfl (Val.fieldAddr rfl fl26_3 sz3 rfl) ?_
 refine TF.tk 23 15142631 rfl rfl rfl (Val.load 0 rfl ag3 rfl rfl) ?_
 refine TF.tk 25 48697063 rfl rfl rfl (Val.move rfl) ?_
 refine TF.tk 26 115805927 rfl rfl rfl (Val.mul rfl rfl (r := 2 * c.f) (w_i64 (by omega) (by omega))) ?_
 refine TF.tk 27 250023655 rfl rfl rfl (Val.add rfl rfl (r := 2 * c.f + 1) (w_i64 (by omega) (by omega))) ?_
 refine TF.tk 28 518459111 rfl rfl rfl (Val.move rfl) ?_
 refine TF.tk 29 1055330023 rfl rfl rfl (Val.fieldAddr rfl fl26_0 sz3 rfl) ?_
 refine TF.tk 30 2129071847 rfl rfl rfl (Val.load 0 rfl ag3 rfl rfl) ?_
 refine TF.tk 33 10719006439 rfl rfl rfl (Val.move rfl) ?_
 refine TF.tk 34 27898875623 rfl rfl rfl (Val.fieldAddr rfl fl26_4 sz3 rfl) ?_
 refine TF.tk 35 62258613991 rfl rfl rfl (Val.load 0 rfl ag3 rfl rfl) ?_
 refine TF.tk 38 337136520935 rfl rfl rfl (Val.move rfl) ?_
 refine TF.tk 39 886892334823 rfl rfl rfl (Val.fieldAddr rfl fl26_5 sz3 rfl) ?_
 refine TF.tk 40 1986403962599 rfl rfl rfl (Val.load 0 rfl ag3 rfl rfl) ?_
 refine TF.tk 43 10782496984807 rfl rfl rfl (Val.move rfl) ?_
 refine TF.tk 44 28374683029223 rfl rfl rfl (Val.fieldAddr rfl fl26_6 sz3 rfl) ?_
 refine TF.tk 45 63559055118055 rfl rfl rfl (Val.load 0 rfl ag3 rfl rfl) ?_
 refine TF.tk 48 345034031828711 rfl rfl rfl (Val.loadAgg 0 rfl ag26 sz26 rfl rfl rfl) ?_
 refine TF.tk 51 2596833845513959 rfl rfl rfl (Val.move rfl) ?_
 refine TF.tk 52 7100433472884455 rfl rfl rfl (Val.fieldAddr rfl fl26_8 sz3 rfl) ?_
 refine TF.tk 53 16107632727625447 rfl rfl rfl (Val.load 0 rfl ag3 rfl rfl) ?_
 refine TF.tk 56 88165226765553383 rfl rfl rfl (Val.move rfl) ?_
 refine TF.tk 57 232280414841409255 rfl rfl rfl (Val.fieldAddr rfl fl26_9 sz3 rfl) ?_
 refine TF.tk 58 520510790993120999 rfl rfl rfl (Val.load 0 rfl ag3 rfl rfl) ?_
 refine TF.tk 61 2826353800206814951 rfl rfl rfl (Val.move rfl) ?_
 refine TF.tk 62 7438039818634202855 rfl rfl rfl (Val.fieldAddr rfl fl26_10 sz3 rfl) ?_
 refine TF.tk 63 16661411855488978663 rfl rfl rfl (Val.load 0 rfl ag3 rfl rfl) ?_
 refine TF.tk 65 53554900002908081895 rfl rfl rfl (Val.move rfl) ?_
 refine TF.tk 66 127341876297746288359 rfl rfl rfl (Val.fieldAddr rfl fl26_9 sz3 rfl) ?_
 refine TF.tk 67 274915828887422701287 rfl rfl rfl (Val.load 0 rfl ag3 rfl rfl) ?_
 refine TF.tk 70 1455507449604834004711 rfl rfl rfl (Val.move rfl) ?_
 refine TF.tk 71 3816690691039656611559 rfl rfl rfl (Val.fieldAddr rfl fl26_11 sz3 rfl) ?_
 refine TF.tk 72 8539057173909301825255 rfl rfl rfl (Val.load 0 rfl ag3 rfl rfl) ?_
 refine TF.tk 75 46317989036866463534823 rfl rfl rfl (Val.move rfl) ?_
 refine TF.tk 76 121875852762780786953959 rfl rfl rfl (Val.fieldAddr rfl fl26_12 sz3 rfl) ?_
 refine TF.tk 77 272991580214609433792231 rfl rfl rfl (Val.load 0 rfl ag3 rfl rfl) ?_
 refine TF.tk 80 1481917399829238608498407 rfl rfl rfl (Val.move rfl) ?_
 refine TF.tk 81 3899769039058496957910759 rfl rfl rfl (Val.fieldAddr rfl fl26_13 sz3 rfl) ?_
 refine TF.tk 82 8735472317517013656735463 rfl rfl rfl (Val.load 0 rfl ag3 rfl rfl) ?_
 refine TF.tk 85 47421098545185147247333095 rfl rfl rfl (Val.move rfl) ?_
 refine TF.tk 86 124792351000521414428528359 rfl rfl rfl (Val.fieldAddr rfl fl26_14 sz3 rfl) ?_
 refine TF.tk 87 279534855911193948790918887 rfl rfl rfl (Val.load 0 rfl ag3 rfl rfl) ?_
 refine TF.tk 90 1517474895196574223690043111 rfl rfl rfl (Val.move rfl) ?_
 refine TF.tk 91 3993354973767334773488291559 rfl rfl rfl (Val.fieldAddr rfl fl26_15 sz3 rfl) ?_
 refine TF.tk 92 8945115130908855873084788455 rfl rfl rfl (Val.load 0 rfl ag3 rfl rfl) ?_
 refine TF.tk 95 48559196388041024669856763623 rfl rfl rfl (Val.move rfl) ?_
 refine TF.tk 96 127787358902305362263400713959 rfl rfl rfl (Val.fieldAddr rfl fl26_16 sz3 rfl) ?_
 refine TF.tk 97 286243683930834037450488614631 rfl rfl rfl (Val.load 0 rfl ag3 rfl rfl) ?_
 refine TF.tk 100 1553894284159063438947191820007 rfl rfl rfl (Val.move rfl) ?_
 refine TF.tk 101 4089195484615522241940598230759 rfl rfl rfl (Val.fieldAddr rfl fl26_17 sz3 rfl) ?_
 refine TF.tk 102 9159797885528439847927411052263 rfl rfl rfl (Val.load 0 rfl ag3 rfl rfl) ?_
 refine TF.tk 105 49724617092831780695821913624295 rfl rfl rfl (Val.fieldAddr rfl fl26_18 sz2 rfl) ?_
 refine TF.tk 106 130854255507438462391610918768359 rfl rfl rfl (Val.load 0 rfl ag2 rfl rfl) ?_
 refine TF.tk 107 293113532336651825783188929056487 rfl rfl rfl (Val.buildS (cs := Pt.cs ⟨[102, 97, 114], c.far, 0, 1099511627776⟩) pl157 ze157 rfl rfl) ?_
 refine TF.tk 108 617632085995078552566344949632743 rfl rfl rfl (Val.move rfl) ?_
 refine TF.tk 109 1266669193311932006132656990785255 rfl rfl rfl (Val.fieldAddr rfl fl26_19 sz3 rfl) ?_
 refine TF.tk 110 2564743407945638913265281073090279 rfl rfl rfl (Val.load 0 rfl ag3 rfl rfl) ?_
 refine TF.tk 113 12949337125015294170326273731530471 rfl rfl rfl (Val.move rfl) ?_
 refine TF.tk 114 33718524559154604684448259048410855 rfl rfl rfl (Val.fieldAddr rfl fl26_20 sz3 rfl) ?_
 refine TF.tk 115 75256899427433225712692229682171623 rfl rfl rfl (Val.load 0 rfl ag3 rfl rfl) ?_
 refine TF.tk 118 407563898373662193938643994752257767 rfl rfl rfl (Val.move rfl) ?_
 refine TF.tk 119 1072177896266120130390547524892430055 rfl rfl rfl (Val.fieldAddr rfl fl26_21 sz3 rfl) ?_
 refine TF.tk 120 2401405892051036003294354585172774631 rfl rfl rfl (Val.load 0 rfl ag3 rfl rfl) ?_
 refine TF.one 3 (by kernel_rfl) ?_
 refine TOF.dz 2401405892051036003294354585172774639 (some 14) rfl rfl rfl rfl (Does.callV rfl go99 rfl (clo_fn _ _)) ?_
 rintro _ _ ⟨rfl, rfl⟩
 refine roK ?_
 refine TF.tk 4 2401405892051036003294354585172774655 rfl rfl rfl (Val.buildS (cs := Pt.cs ⟨[110], c.n, 1, 16⟩) pl157 ze157 rfl rfl) ?_
 refine TF.one 8 (by kernel_rfl) ?_
 refine TOF.dz 2401405892051036003294354585172774911 (some 19) rfl rfl rfl rfl (Does.callV rfl go99 rfl (clo_fn _ _)) ?_
 rintro _ _ ⟨rfl, rfl⟩
 refine roK ?_
 refine TF.one 12 (by kernel_rfl) ?_
 refine TOF.dz 2401405892051036003294354585172779007 (some 23) rfl rfl rfl rfl (Does.callV rfl go99 rfl (clo_fn _ _)) ?_
 rintro _ _ ⟨rfl, rfl⟩
 refine roK ?_
 refine TF.tk 13 2401405892051036003294354585172787199 rfl rfl rfl (Val.sub rfl rfl (r := c.n - 1) (w_i64 (by omega) (by omega))) ?_
 refine TF.tk 14 2401405892051036003294354585172803583 rfl rfl rfl (Val.quo rfl rfl (by decide) (r := (c.n - 1).tdiv 3) (w_i64 (by have := quo3 hn; omega) (by have := quo3 hn; omega))) ?_
 refine TF.tk 15 2401405892051036003294354585172836351 rfl rfl rfl (Val.buildS (cs := Pt.cs ⟨[102], c.f, 0, ((c.n - 1).tdiv 3)⟩) pl157 ze157 rfl rfl) ?_
 refine TF.one 19 (by kernel_rfl) ?_
 refine TOF.dz 2401405892051036003294354585173360639 (some 30) rfl rfl rfl rfl (Does.callV rfl go99 rfl (clo_fn _ _)) ?_
 rintro _ _ ⟨rfl, rfl⟩
 refine roK ?_
 refine TF.tk 20 2401405892051036003294354585174409215 rfl rfl rfl (Val.buildS (cs := Pt.cs ⟨[109], c.m, 1, 4⟩) pl157 ze157 rfl rfl) ?_
 refine TF.one 24 (by kernel_rfl) ?_
 refine TOF.dz 2401405892051036003294354585191186431 (some 35) rfl rfl rfl rfl (Does.callV rfl go99 rfl (clo_fn _ _)) ?_
 rintro _ _ ⟨rfl, rfl⟩
 refine roK ?_
 refine TF.one 31 (by kernel_rfl) ?_
 refine TOF.dz 2401405892051036003294354587338670079 (some 42) rfl rfl rfl rfl (Does.callV rfl go99 rfl (clo_fn _ _)) ?_
 rintro _ _ ⟨rfl, rfl⟩
 refine roK ?_
 refine TF.tk 32 2401405892051036003294354591633637375 rfl rfl rfl (Val.buildS (cs := Pt.cs ⟨[113, 117, 111, 114, 117, 109], c.quorum, (2 * c.f + 1), c.n⟩) pl157 ze157 rfl rfl) ?_
 refine TF.one 36 (by kernel_rfl) ?_
 refine TOF.dz 2401405892051036003294354660353114111 (some 47) rfl rfl rfl rfl (Does.callV rfl go99 rfl (clo_fn _ _)) ?_
 rintro _ _ ⟨rfl, rfl⟩
 refine roK ?_
 refine TF.tk 37 2401405892051036003294354797792067583 rfl rfl rfl (Val.buildS (cs := Pt.cs ⟨[102, 114, 101, 115, 104], c.fresh, 1, 8⟩) pl157 ze157 rfl rfl) ?_
 refine TF.one 41 (by kernel_rfl) ?_
 refine TOF.dz 2401405892051036003294356996815323135 (some 52) rfl rfl rfl rfl (Does.callV rfl go99 rfl (clo_fn _ _)) ?_
 rintro _ _ ⟨rfl, rfl⟩
 refine roK ?_
 refine TF.tk 42 2401405892051036003294361394861834239 rfl rfl rfl (Val.buildS (cs := Pt.cs ⟨[103, 114, 97, 99, 101], c.grace, 1, 100⟩) pl157 ze157 rfl rfl) ?_
 refine TF.one 46 (by kernel_rfl) ?_
 refine TOF.dz 2401405892051036003294431763606011903 (some 57) rfl rfl rfl rfl (Does.callV rfl go99 rfl (clo_fn _ _)) ?_
 rintro _ _ ⟨rfl, rfl⟩
 refine roK ?_
 refine TF.tk 47 2401405892051036003294572501094367231 rfl rfl rfl (Val.buildS (cs := Pt.cs ⟨[119, 105, 110, 100, 111, 119], c.window, 1, 64⟩) pl157 ze157 rfl rfl) ?_
 refine TF.one 49 (by kernel_rfl) ?_
 refine TOF.dz 2401405892051036003295135451047788543 (some 60) rfl rfl rfl rfl (Does.callF go100 rfl (targets_fn c _ ht)) ?_
 rintro _ _ ⟨rfl, rfl⟩
 refine roK ?_
 refine TF.tk 50 2401405892051036003296261350954631167 rfl rfl rfl (Val.buildS (cs := Pt.cs ⟨[116, 97, 114, 103, 101, 116], 1, 1, 1⟩) pl157 ze157 rfl rfl) ?_
 refine TF.one 54 (by kernel_rfl) ?_
 refine TOF.dz 2401405892051036003314275749464113151 (some 65) rfl rfl rfl rfl (Does.callV rfl go99 rfl (clo_fn _ _)) ?_
 rintro _ _ ⟨rfl, rfl⟩
 refine roK ?_
 refine TF.tk 55 2401405892051036003350304546483077119 rfl rfl rfl (Val.buildS (cs := Pt.cs ⟨[116, 111, 108], c.tol, 0, 1000⟩) pl157 ze157 rfl rfl) ?_
 refine TF.one 59 (by kernel_rfl) ?_
 refine TOF.dz 2401405892051036003926765298786500607 (some 70) rfl rfl rfl rfl (Does.callV rfl go99 rfl (clo_fn _ _)) ?_
 rintro _ _ ⟨rfl, rfl⟩
 refine roK ?_
 refine TF.tk 60 2401405892051036005079686803393347583 rfl rfl rfl (Val.buildS (cs := Pt.cs ⟨[109, 105, 110], c.min, 1, 10000⟩) pl157 ze157 rfl rfl) ?_
 refine TF.one 64 (by kernel_rfl) ?_
 refine TOF.dz 2401405892051036023526430877102899199 (some 75) rfl rfl rfl rfl (Does.callV rfl go99 rfl (clo_fn _ _)) ?_
 rintro _ _ ⟨rfl, rfl⟩
 refine roK ?_
 refine TF.one 68 (by kernel_rfl) ?_
 refine TOF.dz 2401405892051036318674336056455725055 (some 79) rfl rfl rfl rfl (Does.callV rfl go99 rfl (clo_fn _ _)) ?_
 rintro _ _ ⟨rfl, rfl⟩
 refine roK ?_
 refine TF.tk 69 2401405892051036908970146415161376767 rfl rfl rfl (Val.buildS (cs := Pt.cs ⟨[109, 97, 120], c.max, c.min, 10000⟩) pl157 ze157 rfl rfl) ?_
 refine TF.one 73 (by kernel_rfl) ?_
 refine TOF.dz 2401405892051046353703112154451804159 (some 84) rfl rfl rfl rfl (Does.callV rfl go99 rfl (clo_fn _ _)) ?_
 rintro _ _ ⟨rfl, rfl⟩
 refine roK ?_
 refine TF.tk 74 2401405892051065243169043633032658943 rfl rfl rfl (Val.buildS (cs := Pt.cs ⟨[99, 97, 108, 109, 117, 112], c.calmup, 0, 60⟩) pl157 ze157 rfl rfl) ?_
 refine TF.one 78 (by kernel_rfl) ?_
 refine TOF.dz 2401405892051367474623947290326335487 (some 89) rfl rfl rfl rfl (Does.callV rfl go99 rfl (clo_fn _ _)) ?_
 rintro _ _ ⟨rfl, rfl⟩
 refine roK ?_
 refine TF.tk 79 2401405892051971937533754604913688575 rfl rfl rfl (Val.buildS (cs := Pt.cs ⟨[99, 97, 108, 109, 100, 111, 119, 110], c.calmdown, 0, 60⟩) pl157 ze157 rfl rfl) ?_
 refine TF.one 83 (by kernel_rfl) ?_
 refine TOF.dz 2401405892061643344090671638311337983 (some 94) rfl rfl rfl rfl (Does.callV rfl go99 rfl (clo_fn _ _)) ?_
 rintro _ _ ⟨rfl, rfl⟩
 refine roK ?_
 refine TF.tk 84 2401405892080986157204505705106636799 rfl rfl rfl (Val.buildS (cs := Pt.cs ⟨[112, 111, 100, 115, 117, 112], c.podsup, 1, 1000⟩) pl157 ze157 rfl rfl) ?_
 refine TF.one 88 (by kernel_rfl) ?_
 refine TOF.dz 2401405892390471167025850773831417855 (some 99) rfl rfl rfl rfl (Does.callV rfl go99 rfl (clo_fn _ _)) ?_
 rintro _ _ ⟨rfl, rfl⟩
 refine roK ?_
 refine TF.tk 89 2401405893009441186668540911280979967 rfl rfl rfl (Val.buildS (cs := Pt.cs ⟨[112, 99, 116, 117, 112], c.pctup, 1, 1000⟩) pl157 ze157 rfl rfl) ?_
 refine TF.one 93 (by kernel_rfl) ?_
 refine TOF.dz 2401405902912961500951583110473973759 (some 104) rfl rfl rfl rfl (Does.callV rfl go99 rfl (clo_fn _ _)) ?_
 rintro _ _ ⟨rfl, rfl⟩
 refine roK ?_
 refine TF.tk 94 2401405922720002129517667508859961343 rfl rfl rfl (Val.buildS (cs := Pt.cs ⟨[112, 111, 100, 115, 100, 111, 119, 110], c.podsdown, 1, 1000⟩) pl157 ze157 rfl rfl) ?_
 refine TF.one 98 (by kernel_rfl) ?_
 refine TOF.dz 2401406239632652186575017883035762687 (some 109) rfl rfl rfl rfl (Does.callV rfl go99 rfl (clo_fn _ _)) ?_
 rintro _ _ ⟨rfl, rfl⟩
 refine roK ?_
 refine TF.tk 99 2401406873457952300689718631387365375 rfl rfl rfl (Val.buildS (cs := Pt.cs ⟨[112, 99, 116, 100, 111, 119, 110], c.pctdown, 1, 100⟩) pl157 ze157 rfl rfl) ?_
 refine TF.one 103 (by kernel_rfl) ?_
 refine TOF.dz 2401417014662754126524930605013008383 (some 114) rfl rfl rfl rfl (Does.callV rfl go99 rfl (clo_fn _ _)) ?_
 rintro _ _ ⟨rfl, rfl⟩
 refine roK ?_
 refine TF.tk 104 2401437297072357778195354552264294399 rfl rfl rfl (Val.buildS (cs := Pt.cs ⟨[112, 101, 114, 105, 111, 100], c.period, 1, 60⟩) pl157 ze157 rfl rfl) ?_
 refine TF.one 111 (by kernel_rfl) ?_
 refine TOF.dz 2404033445501625192009619800428904447 (some 122) rfl rfl rfl rfl (Does.callV rfl go99 rfl (clo_fn _ _)) ?_
 rintro _ _ ⟨rfl, rfl⟩
 refine roK ?_
 refine TF.tk 112 2409225742360160019638150296758124543 rfl rfl rfl (Val.buildS (cs := Pt.cs ⟨[115, 116, 114, 105, 107, 101, 115], c.strikes, 1, 100⟩) pl157 ze157 rfl rfl) ?_
 refine TF.one 116 (by kernel_rfl) ?_
 refine TOF.dz 2492302492096717261694638238025646079 (some 127) rfl rfl rfl rfl (Does.callV rfl go99 rfl (clo_fn _ _)) ?_
 rintro _ _ ⟨rfl, rfl⟩
 refine roK ?_
 refine TF.tk 117 2658455991569831745807614120560689151 rfl rfl rfl (Val.buildS (cs := Pt.cs ⟨[112, 114, 111, 98, 101], c.probe, 1, 100⟩) pl157 ze157 rfl rfl) ?_
 refine TF.one 121 (by kernel_rfl) ?_
 refine TOF.dz 5316911983139663491615228241121378303 (some 132) rfl rfl rfl rfl (Does.callV rfl go99 rfl (clo_fn _ _)) ?_
 rintro _ _ ⟨rfl, rfl⟩
 refine roK ?_
 refine TF.tk 122 10633823966279326983230456482242756607 rfl rfl rfl (Val.buildS (cs := Pt.cs ⟨[115, 101, 99, 116, 111, 114, 115], c.sectors, 64, 4096⟩) pl157 ze157 rfl rfl) ?_
 refine TF.one 123 (by kernel_rfl) ?_
 refine TOF.dz 21267647932558653966460912964485513215 (some 134) rfl rfl rfl rfl (Does.buildSlice (cs := (partsL c c.f 1).flatMap Pt.cs) sl154 sz157 ze157 (by decide) (by decide) rfl (evP rfl (evP rfl (evP rfl (evP rfl (evP rfl (evP rfl (evP rfl (evP rfl (evP rfl (evP rfl (evP rfl (evP rfl (evP rfl (evP rfl (evP rfl (evP rfl (evP rfl (evP rfl (evP rfl (evP rfl (evP rfl (evP rfl evP0)))))))))))))))))))))) (fill_all (f := Pt.cs) (sz := 4) (zl := [.string ⟨#[]⟩, .int .i64 0, .int .i64 0, .int .i64 0]) (g := fun p => Value.agg p.cs.toArray) (fun _ => rfl) (fun _ => rfl) rfl (partsL c c.f 1))) ?_
 rintro _ _ ⟨bS, rfl, rfl⟩
 refine roK ?_
 refine TF.tk 124 42535295865117307932921825928971026431 rfl rfl rfl (Val.assign rfl) ?_
 refine TF.done (by kernel_rfl) ?_
 refine AtX.then ?_
 refine TC.en (E' := [(2, _)]) ?_
 refine TC.ret1 (fn := Tryz.f86) (fun _ _ h => h) rfl (RV.tmp rfl) (M' := (bS, row 157 ((partsL c c.f 1).flatMap Pt.cs)) :: M) (fun w h => ro_del 1 rfl w h) ?_
 exact ⟨bS, rfl, rfl⟩

end Go.Proofs.YtphoapajlcaoeaaGreat
/- walks -/
set_option linter.unusedVariables false
set_option linter.unusedSimpArgs false
set_option maxRecDepth 100000
set_option maxHeartbeats 4000000
namespace Go.Proofs.YtphoapajlcaoeaaGreat
open Go Go.X
/-- quorumite/conf.Wrong -/
theorem Wrong_ok (c : Cf) (M : Hp) (hc : OkC c) : FnC Tryz.prog 63 #[.agg #[.int .i64 (c.n), .int .i64 (c.f), .int .i64 (c.m), .int .i64 (c.quorum), .int .i64 (c.fresh), .int .i64 (c.grace), .int .i64 (c.window), .int .i64 (c.t0), .int .i64 (c.t1), .int .i64 (c.t2), .int .i64 (c.t3), .int .i64 (c.tol), .int .i64 (c.min), .int .i64 (c.max), .int .i64 (c.calmup), .int .i64 (c.calmdown), .int .i64 (c.podsup), .int .i64 (c.pctup), .int .i64 (c.podsdown), .int .i64 (c.pctdown), .int .i64 (c.period), .int .i64 (c.far), .int .i64 (c.strikes), .int .i64 (c.probe), .int .i64 (c.sectors), .int .u64 (c.seed)]] M (fun v M' => v = .string (ofL []) ∧ M = M') := by
 have hn : 0 ≤ c.n ∧ c.n ≤ 1000 := by have := hc.n; omega
 have hf : 0 ≤ c.f ∧ c.f ≤ 16 := by have := hc.n; have := hc.f; omega
 have ht := tg_ok hc
 refine FnC.intro Tryz.func63 rfl 27 rfl (by simp) (fun z => ?_)
 refine TC.en (E' := [(0, _)]) ?_
 refine TC.sr ?_
 refine TL.d (Does.box rfl rfl) ?_
 rintro _ _ ⟨b1, rfl, rfl⟩
 refine TL.v (Val.assign rfl) ?_
 refine TL.nt ?_
 refine TC.en (E' := [(1, _), (2, _)]) ?_
 refine TC.seq ?_
 refine TC.sr ?_
 refine TL.v (Val.loadAgg 0 rfl ag26 sz26 rfl rfl rfl) ?_
 refine TL.d (Does.callF go86 rfl (parts_fn c _ hn hf ht)) ?_
 rintro _ _ ⟨bS, rfl, rfl⟩
 refine TL.v (Val.lenSl rfl rfl sl154) ?_
 refine TL.v (Val.move rfl) ?_
 refine TL.nt ?_
 refine TC.en (E' := [(2, _), (6, _), (7, _), (8, _)]) ?_
 refine TC.block ?_
 refine TC.loop (ι := Nat) (fun k => [(6, .slice (some ⟨bS, 0, none⟩) 22 22), (7, .int .i64 22), (8, .int .i64 (k : Nat))]) (fun _ => ((bS, row 157 ((partsL c c.f 1).flatMap Pt.cs)) :: ((b1, .cells #[.int .i64 (c.n), .int .i64 (c.f), .int .i64 (c.m), .int .i64 (c.quorum), .int .i64 (c.fresh), .int .i64 (c.grace), .int .i64 (c.window), .int .i64 (c.t0), .int .i64 (c.t1), .int .i64 (c.t2), .int .i64 (c.t3), .int .i64 (c.tol), .int .i64 (c.min), .int .i64 (c.max), .int .i64 (c.calmup), .int .i64 (c.calmdown), .int .i64 (c.podsup), .int .i64 (c.pctup), .int .i64 (c.podsdown), .int .i64 (c.pctdown), .int .i64 (c.period), .int .i64 (c.far), .int .i64 (c.strikes), .int .i64 (c.probe), .int .i64 (c.sectors), .int .u64 (c.seed)] 26 (0, 0)) :: M))) (fun k => k ≤ 22) (fun k => 22 - k) 0 ?_ (Sub.cons rfl (Sub.cons rfl (Sub.cons rfl (Sub.nil _)))) (fun _ h => h) ?_
 · first | exact Nat.zero_le _ | rfl
 intro k hk
 refine TC.sr ?_
 refine TL.v (Val.lss rfl rfl) ?_
 refine TL.nt ?_
 refine TC.seq ?_
 refine TC.condP rfl (fun c1 => ?_) (fun c1 => ?_)
 ·
  refine TC.skip ?_
  refine AtX.then ?_
  refine TC.seq ?_
  refine TC.block ?_
  refine TC.seq ?_
  have hlt : k < 22 := by omega
  obtain ⟨p, hp⟩ : ∃ p, (partsL c c.f 1)[k]? = some p := ⟨_, List.getElem?_eq_getElem (by rw [parts_len]; exact hlt)⟩
  have hR : Rd (((bS, row 157 ((partsL c c.f 1).flatMap Pt.cs)) :: ((b1, .cells #[.int .i64 (c.n), .int .i64 (c.f), .int .i64 (c.m), .int .i64 (c.quorum), .int .i64 (c.fresh), .int .i64 (c.grace), .int .i64 (c.window), .int .i64 (c.t0), .int .i64 (c.t1), .int .i64 (c.t2), .int .i64 (c.t3), .int .i64 (c.tol), .int .i64 (c.min), .int .i64 (c.max), .int .i64 (c.calmup), .int .i64 (c.calmdown), .int .i64 (c.podsup), .int .i64 (c.pctup), .int .i64 (c.podsdown), .int .i64 (c.pctdown), .int .i64 (c.period), .int .i64 (c.far), .int .i64 (c.strikes), .int .i64 (c.probe), .int .i64 (c.sectors), .int .u64 (c.seed)] 26 (0, 0)) :: M))) ⟨bS, 0, none⟩ ((partsL c c.f 1).flatMap Pt.cs) := Rd.get (i := 0) rfl (by rw [List.drop_zero, List.take_of_length_le (Nat.le_refl _)])
  refine TC.region ?_
  refine TL.v (Val.indexAddr (i := k) (r := 4 * k) rfl rfl sl154 sz157 rfl (by omega) (by omega)) ?_
  refine TL.v (Val.loadAggR (o := 0) (j := 4 * k) (vs := p.cs) rfl ag157 sz157 hR (by omega) (flat_seg Pt.cs_len hp) rfl) ?_
  refine TL.d (Does.alloc ze157 rfl) ?_
  rintro _ _ ⟨b3, rfl, rfl⟩
  refine TL.d (Does.store (i := 0) rfl rfl rfl sz157 rfl rfl (by first | exact Nat.le_of_ble_eq_true rfl | decide | omega) rfl rfl) ?_
  rintro _ _ ⟨rfl, rfl⟩
  refine TL.nt ?_
  refine TC.seq ?_
  have hpp := parts_get hc hp
  refine TC.region ?_
  refine TL.v (Val.fieldAddr rfl fl157_1 sz2 rfl) ?_
  refine TL.v (Val.load 0 rfl ag2 rfl rfl) ?_
  refine TL.v (Val.fieldAddr rfl fl157_2 sz2 rfl) ?_
  refine TL.v (Val.load 0 rfl ag2 rfl rfl) ?_
  refine TL.v (Val.lss rfl rfl) ?_
  refine TL.v (Val.move rfl) ?_
  refine TL.gen (fun g4 hg4 => ?_)
  refine TL.gv rfl rfl rfl (fun hg => by subst hg; exact (Val.fieldAddr rfl fl157_1 sz2 rfl)) ?_
  refine TL.gv rfl rfl rfl (fun hg => by subst hg; exact (Val.load 0 rfl ag2 rfl rfl)) ?_
  refine TL.gv rfl rfl rfl (fun hg => by subst hg; exact (Val.fieldAddr rfl fl157_3 sz2 rfl)) ?_
  refine TL.gv rfl rfl rfl (fun hg => by subst hg; exact (Val.load 0 rfl ag2 rfl rfl)) ?_
  refine TL.gv rfl rfl rfl (fun hg => by subst hg; exact (Val.gtr rfl rfl)) ?_
  refine TL.v (Val.pickOr rfl rfl rfl) ?_
  refine TL.nt ?_
  refine TC.cond rfl (fun c2 => ?_) (fun c2 => ?_)
  ·
   (exfalso; grind)
  ·
   refine TC.skip ?_
   refine AtX.blk ?_
   refine AtX.then ?_
   refine TC.region ?_
   refine TL.v (Val.add rfl rfl (w_i64 (by omega) (by omega))) ?_
   refine TL.v (Val.move rfl) ?_
   refine TL.nil ?_
   refine AtX.round (k + 1) ?_ ?_ (Sub.cons rfl (Sub.cons rfl (Sub.cons rfl (Sub.nil _)))) (by repeat (first | exact ro_refl | exact ro_pre | refine ro_tail ?_ | refine ro_app ?_))
   · omega
   · omega
 ·
  refine TC.exit ?_
  refine AtX.seqX ?_
  refine AtX.seqX ?_
  refine AtX.hit ?_
  refine AtX.then ?_
  refine TC.en (E' := []) ?_
  refine TC.sr ?_
  refine TL.v (Val.assign rfl) ?_
  refine TL.nt ?_
  refine TC.en (E' := [(2, _)]) ?_
  refine TC.ret1 (fn := Tryz.f63) (fun _ _ h => h) rfl (RV.tmp rfl) (M' := M) (by repeat (first | exact ro_refl | exact ro_pre | refine ro_tail ?_ | refine ro_app ?_)) ?_
  exact ⟨rfl, rfl⟩

/-- quorumite/conf.Wrong -/
theorem Wrong_n (c : Cf) (M : Hp) (hn : 0 ≤ c.n ∧ c.n ≤ 1000) (hf : 0 ≤ c.f ∧ c.f ≤ 16) (ht : tg c) (h1 : c.n < 1) : FnC Tryz.prog 63 #[.agg #[.int .i64 (c.n), .int .i64 (c.f), .int .i64 (c.m), .int .i64 (c.quorum), .int .i64 (c.fresh), .int .i64 (c.grace), .int .i64 (c.window), .int .i64 (c.t0), .int .i64 (c.t1), .int .i64 (c.t2), .int .i64 (c.t3), .int .i64 (c.tol), .int .i64 (c.min), .int .i64 (c.max), .int .i64 (c.calmup), .int .i64 (c.calmdown), .int .i64 (c.podsup), .int .i64 (c.pctup), .int .i64 (c.podsdown), .int .i64 (c.pctdown), .int .i64 (c.period), .int .i64 (c.far), .int .i64 (c.strikes), .int .i64 (c.probe), .int .i64 (c.sectors), .int .u64 (c.seed)]] M (fun v M' => v = .string (ofL [110]) ∧ M = M') := by
 refine FnC.intro Tryz.func63 rfl 27 rfl (by simp) (fun z => ?_)
 refine TC.en (E' := [(0, _)]) ?_
 refine TC.sr ?_
 refine TL.d (Does.box rfl rfl) ?_
 rintro _ _ ⟨b1, rfl, rfl⟩
 refine TL.v (Val.assign rfl) ?_
 refine TL.nt ?_
 refine TC.en (E' := [(1, _), (2, _)]) ?_
 refine TC.seq ?_
 refine TC.sr ?_
 refine TL.v (Val.loadAgg 0 rfl ag26 sz26 rfl rfl rfl) ?_
 refine TL.d (Does.callF go86 rfl (parts_fn c _ hn hf ht)) ?_
 rintro _ _ ⟨bS, rfl, rfl⟩
 refine TL.v (Val.lenSl rfl rfl sl154) ?_
 refine TL.v (Val.move rfl) ?_
 refine TL.nt ?_
 refine TC.en (E' := [(2, _), (6, _), (7, _), (8, _)]) ?_
 refine TC.block ?_
 refine TC.loop (ι := Nat) (fun k => [(6, .slice (some ⟨bS, 0, none⟩) 22 22), (7, .int .i64 22), (8, .int .i64 (k : Nat))]) (fun _ => ((bS, row 157 ((partsL c c.f 1).flatMap Pt.cs)) :: ((b1, .cells #[.int .i64 (c.n), .int .i64 (c.f), .int .i64 (c.m), .int .i64 (c.quorum), .int .i64 (c.fresh), .int .i64 (c.grace), .int .i64 (c.window), .int .i64 (c.t0), .int .i64 (c.t1), .int .i64 (c.t2), .int .i64 (c.t3), .int .i64 (c.tol), .int .i64 (c.min), .int .i64 (c.max), .int .i64 (c.calmup), .int .i64 (c.calmdown), .int .i64 (c.podsup), .int .i64 (c.pctup), .int .i64 (c.podsdown), .int .i64 (c.pctdown), .int .i64 (c.period), .int .i64 (c.far), .int .i64 (c.strikes), .int .i64 (c.probe), .int .i64 (c.sectors), .int .u64 (c.seed)] 26 (0, 0)) :: M))) (fun k => k = 0) (fun k => 22 - k) 0 ?_ (Sub.cons rfl (Sub.cons rfl (Sub.cons rfl (Sub.nil _)))) (fun _ h => h) ?_
 · first | exact Nat.zero_le _ | rfl
 intro k hk
 refine TC.sr ?_
 refine TL.v (Val.lss rfl rfl) ?_
 refine TL.nt ?_
 refine TC.seq ?_
 refine TC.condP rfl (fun c1 => ?_) (fun c1 => ?_)
 ·
  refine TC.skip ?_
  refine AtX.then ?_
  refine TC.seq ?_
  refine TC.block ?_
  refine TC.seq ?_
  have hlt : k < 22 := by omega
  obtain ⟨p, hp⟩ : ∃ p, (partsL c c.f 1)[k]? = some p := ⟨_, List.getElem?_eq_getElem (by rw [parts_len]; exact hlt)⟩
  have hR : Rd (((bS, row 157 ((partsL c c.f 1).flatMap Pt.cs)) :: ((b1, .cells #[.int .i64 (c.n), .int .i64 (c.f), .int .i64 (c.m), .int .i64 (c.quorum), .int .i64 (c.fresh), .int .i64 (c.grace), .int .i64 (c.window), .int .i64 (c.t0), .int .i64 (c.t1), .int .i64 (c.t2), .int .i64 (c.t3), .int .i64 (c.tol), .int .i64 (c.min), .int .i64 (c.max), .int .i64 (c.calmup), .int .i64 (c.calmdown), .int .i64 (c.podsup), .int .i64 (c.pctup), .int .i64 (c.podsdown), .int .i64 (c.pctdown), .int .i64 (c.period), .int .i64 (c.far), .int .i64 (c.strikes), .int .i64 (c.probe), .int .i64 (c.sectors), .int .u64 (c.seed)] 26 (0, 0)) :: M))) ⟨bS, 0, none⟩ ((partsL c c.f 1).flatMap Pt.cs) := Rd.get (i := 0) rfl (by rw [List.drop_zero, List.take_of_length_le (Nat.le_refl _)])
  refine TC.region ?_
  refine TL.v (Val.indexAddr (i := k) (r := 4 * k) rfl rfl sl154 sz157 rfl (by omega) (by omega)) ?_
  refine TL.v (Val.loadAggR (o := 0) (j := 4 * k) (vs := p.cs) rfl ag157 sz157 hR (by omega) (flat_seg Pt.cs_len hp) rfl) ?_
  refine TL.d (Does.alloc ze157 rfl) ?_
  rintro _ _ ⟨b3, rfl, rfl⟩
  refine TL.d (Does.store (i := 0) rfl rfl rfl sz157 rfl rfl (by first | exact Nat.le_of_ble_eq_true rfl | decide | omega) rfl rfl) ?_
  rintro _ _ ⟨rfl, rfl⟩
  refine TL.nt ?_
  refine TC.seq ?_
  subst hk
  have hpe : p = ⟨[110], c.n, 1, 16⟩ := by simpa [partsL] using hp.symm
  subst hpe
  refine TC.region ?_
  refine TL.v (Val.fieldAddr rfl fl157_1 sz2 rfl) ?_
  refine TL.v (Val.load 0 rfl ag2 rfl rfl) ?_
  refine TL.v (Val.fieldAddr rfl fl157_2 sz2 rfl) ?_
  refine TL.v (Val.load 0 rfl ag2 rfl rfl) ?_
  refine TL.v (Val.lss rfl rfl) ?_
  refine TL.v (Val.move rfl) ?_
  refine TL.gen (fun g4 hg4 => ?_)
  refine TL.gv rfl rfl rfl (fun hg => by subst hg; exact (Val.fieldAddr rfl fl157_1 sz2 rfl)) ?_
  refine TL.gv rfl rfl rfl (fun hg => by subst hg; exact (Val.load 0 rfl ag2 rfl rfl)) ?_
  refine TL.gv rfl rfl rfl (fun hg => by subst hg; exact (Val.fieldAddr rfl fl157_3 sz2 rfl)) ?_
  refine TL.gv rfl rfl rfl (fun hg => by subst hg; exact (Val.load 0 rfl ag2 rfl rfl)) ?_
  refine TL.gv rfl rfl rfl (fun hg => by subst hg; exact (Val.gtr rfl rfl)) ?_
  refine TL.v (Val.pickOr rfl rfl rfl) ?_
  refine TL.nt ?_
  refine TC.cond rfl (fun c2 => ?_) (fun c2 => ?_)
  ·
   refine TC.sr ?_
   refine TL.v (Val.fieldAddr rfl fl157_0 sz9 rfl) ?_
   refine TL.v (Val.load 0 rfl ag9 rfl rfl) ?_
   refine TL.v (Val.assign rfl) ?_
   refine TL.nt ?_
   refine TC.ret1 (fn := Tryz.f63) (fun _ _ h => h) rfl (RV.tmp rfl) (M' := M) (by repeat (first | exact ro_refl | exact ro_pre | refine ro_tail ?_ | refine ro_app ?_)) ?_
   exact ⟨rfl, rfl⟩
  ·
   (exfalso; grind)
 ·
  (exfalso; omega)

/-- quorumite/conf.May -/
theorem cMay_ok (c : Cf) (M : Hp) (hc : OkC c) : FnC Tryz.prog 29 #[.agg #[.int .i64 (c.n), .int .i64 (c.f), .int .i64 (c.m), .int .i64 (c.quorum), .int .i64 (c.fresh), .int .i64 (c.grace), .int .i64 (c.window), .int .i64 (c.t0), .int .i64 (c.t1), .int .i64 (c.t2), .int .i64 (c.t3), .int .i64 (c.tol), .int .i64 (c.min), .int .i64 (c.max), .int .i64 (c.calmup), .int .i64 (c.calmdown), .int .i64 (c.podsup), .int .i64 (c.pctup), .int .i64 (c.podsdown), .int .i64 (c.pctdown), .int .i64 (c.period), .int .i64 (c.far), .int .i64 (c.strikes), .int .i64 (c.probe), .int .i64 (c.sectors), .int .u64 (c.seed)]] M (fun v M' => v = .bool true ∧ M = M') := by
 refine FnC.intro Tryz.func29 rfl 6 rfl (by simp) (fun z => ?_)
 refine TC.en (E' := [(0, _)]) ?_
 refine TC.sr ?_
 refine TL.d (Does.box rfl rfl) ?_
 rintro _ _ ⟨b1, rfl, rfl⟩
 refine TL.v (Val.assign rfl) ?_
 refine TL.nt ?_
 refine TC.en (E' := [(1, _), (2, _)]) ?_
 refine TC.sr ?_
 refine TL.v (Val.loadAgg 0 rfl ag26 sz26 rfl rfl rfl) ?_
 refine TL.d (Does.callF go63 rfl (Wrong_ok c _ hc)) ?_
 rintro _ _ ⟨rfl, rfl⟩
 refine TL.v (Val.eqlL (a := []) (b := []) rfl rfl) ?_
 refine TL.v (Val.assign rfl) ?_
 refine TL.nt ?_
 refine TC.en (E' := [(2, _)]) ?_
 refine TC.ret1 (fn := Tryz.f29) (fun _ _ h => h) rfl (RV.tmp rfl) (M' := M) (by repeat (first | exact ro_refl | exact ro_pre | refine ro_tail ?_ | refine ro_app ?_)) ?_
 exact ⟨rfl, rfl⟩

/-- quorumite/conf.May -/
theorem cMay_no (c : Cf) (M : Hp) (hn : 0 ≤ c.n ∧ c.n ≤ 1000) (hf : 0 ≤ c.f ∧ c.f ≤ 16) (ht : tg c) (h1 : c.n < 1) : FnC Tryz.prog 29 #[.agg #[.int .i64 (c.n), .int .i64 (c.f), .int .i64 (c.m), .int .i64 (c.quorum), .int .i64 (c.fresh), .int .i64 (c.grace), .int .i64 (c.window), .int .i64 (c.t0), .int .i64 (c.t1), .int .i64 (c.t2), .int .i64 (c.t3), .int .i64 (c.tol), .int .i64 (c.min), .int .i64 (c.max), .int .i64 (c.calmup), .int .i64 (c.calmdown), .int .i64 (c.podsup), .int .i64 (c.pctup), .int .i64 (c.podsdown), .int .i64 (c.pctdown), .int .i64 (c.period), .int .i64 (c.far), .int .i64 (c.strikes), .int .i64 (c.probe), .int .i64 (c.sectors), .int .u64 (c.seed)]] M (fun v M' => v = .bool false ∧ M = M') := by
 refine FnC.intro Tryz.func29 rfl 6 rfl (by simp) (fun z => ?_)
 refine TC.en (E' := [(0, _)]) ?_
 refine TC.sr ?_
 refine TL.d (Does.box rfl rfl) ?_
 rintro _ _ ⟨b1, rfl, rfl⟩
 refine TL.v (Val.assign rfl) ?_
 refine TL.nt ?_
 refine TC.en (E' := [(1, _), (2, _)]) ?_
 refine TC.sr ?_
 refine TL.v (Val.loadAgg 0 rfl ag26 sz26 rfl rfl rfl) ?_
 refine TL.d (Does.callF go63 rfl (Wrong_n c _ hn hf ht h1)) ?_
 rintro _ _ ⟨rfl, rfl⟩
 refine TL.v (Val.eqlL (a := [110]) (b := []) rfl rfl) ?_
 refine TL.v (Val.assign rfl) ?_
 refine TL.nt ?_
 refine TC.en (E' := [(2, _)]) ?_
 refine TC.ret1 (fn := Tryz.f29) (fun _ _ h => h) rfl (RV.tmp rfl) (M' := M) (by repeat (first | exact ro_refl | exact ro_pre | refine ro_tail ?_ | refine ro_app ?_)) ?_
 exact ⟨rfl, rfl⟩

end Go.Proofs.YtphoapajlcaoeaaGreat
/- walks -/
set_option linter.unusedVariables false
set_option linter.unusedSimpArgs false
set_option maxRecDepth 100000
set_option maxHeartbeats 4000000
namespace Go.Proofs.YtphoapajlcaoeaaGreat
open Go Go.X
/-- quorumite/quorumitelaw3.Fit -/
theorem Fit_fn (zs : List Int) (A : Option Addr) (nn cc : Nat) (M : Hp) (hA : RdS M A (zs.map (Value.int .i64))) (hn : nn = zs.length) : FnC Tryz.prog 5 #[.slice A nn cc] M (fun v M' => ∃ c : Cf, v = .agg c.cs ∧ OkC c ∧ M = M') := by
 subst hn
 refine FnC.intro Tryz.func5 rfl 173 rfl (by simp) (fun z => ?_)
 refine TC.en (E' := [(0, _)]) ?_
 refine TC.sr ?_
 refine TL.d (Does.alloc ze26 rfl) ?_
 rintro _ _ ⟨b1, rfl, rfl⟩
 refine TL.nt ?_
 refine TC.sr ?_
 refine TL.d (Does.callF go28 rfl (refDefault_fn _)) ?_
 rintro _ _ ⟨rfl, rfl⟩
 refine TL.d (Does.alloc ze26 rfl) ?_
 rintro _ _ ⟨b3, rfl, rfl⟩
 refine TL.d (Does.storeR (ys' := [.int .i64 (4), .int .i64 (1), .int .i64 (1), .int .i64 (3), .int .i64 (2), .int .i64 (2), .int .i64 (32), .int .i64 (1000), .int .i64 (0), .int .i64 (0), .int .i64 (0), .int .i64 (100), .int .i64 (1), .int .i64 (100), .int .i64 (0), .int .i64 (3), .int .i64 (4), .int .i64 (100), .int .i64 (4), .int .i64 (50), .int .i64 (2), .int .i64 (100), .int .i64 (3), .int .i64 (4), .int .i64 (256), .int .u64 (1)]) 0 rfl rfl rfl sz26 rfl rfl (by exact Nat.le_of_ble_eq_true rfl) rfl) ?_
 rintro _ _ ⟨rfl, rfl⟩
 refine TL.nt ?_
 refine TC.en (E' := [(0, _), (2, _), (3, _)]) ?_
 refine TC.sr ?_
 refine TL.d (Does.alloc ze80 rfl) ?_
 rintro _ _ ⟨b4, rfl, rfl⟩
 refine TL.nt ?_
 refine TC.en (E' := [(0, _), (2, _), (3, _), (4, _)]) ?_
 refine TC.seq ?_
 refine TC.seq ?_
 refine TC.heap (M' := (b3, .cells #[.int .i64 (4), .int .i64 (1), .int .i64 (1), .int .i64 (3), .int .i64 (2), .int .i64 (2), .int .i64 (32), .int .i64 (1000), .int .i64 (0), .int .i64 (0), .int .i64 (0), .int .i64 (100), .int .i64 (1), .int .i64 (100), .int .i64 (0), .int .i64 (3), .int .i64 (4), .int .i64 (100), .int .i64 (4), .int .i64 (50), .int .i64 (2), .int .i64 (100), .int .i64 (3), .int .i64 (4), .int .i64 (256), .int .u64 (1)] 26 (0, 0)) :: (b4, row 80 ((List.replicate 20 (0 : Int)).map (Value.int .i64))) :: (b1, .cells #[.int .i64 (0), .int .i64 (0), .int .i64 (0), .int .i64 (0), .int .i64 (0), .int .i64 (0), .int .i64 (0), .int .i64 (0), .int .i64 (0), .int .i64 (0), .int .i64 (0), .int .i64 (0), .int .i64 (0), .int .i64 (0), .int .i64 (0), .int .i64 (0), .int .i64 (0), .int .i64 (0), .int .i64 (0), .int .i64 (0), .int .i64 (0), .int .i64 (0), .int .i64 (0), .int .i64 (0), .int .i64 (0), .int .u64 (0)] 26 (0, 0)) :: M) (fun w h => h.perm (List.Perm.swap _ _ _)) ?_
 refine TC.region ?_
 refine TL.v (Val.assign rfl) ?_
 refine TL.nt ?_
 refine TC.en (E' := [(0, _), (2, _), (3, _), (4, _), (5, _)]) ?_
 refine TC.block ?_
 refine TC.loop (ι := (Nat × List Int)) (fun i => [(0, .slice A zs.length cc), (2, .pointer (some ⟨b1, 0, none⟩)), (3, .pointer (some ⟨b3, 0, none⟩)), (4, .pointer (some ⟨b4, 0, none⟩)), (5, .int .i64 (i.1 : Nat))]) (fun i => (b3, .cells #[.int .i64 (4), .int .i64 (1), .int .i64 (1), .int .i64 (3), .int .i64 (2), .int .i64 (2), .int .i64 (32), .int .i64 (1000), .int .i64 (0), .int .i64 (0), .int .i64 (0), .int .i64 (100), .int .i64 (1), .int .i64 (100), .int .i64 (0), .int .i64 (3), .int .i64 (4), .int .i64 (100), .int .i64 (4), .int .i64 (50), .int .i64 (2), .int .i64 (100), .int .i64 (3), .int .i64 (4), .int .i64 (256), .int .u64 (1)] 26 (0, 0)) :: (b4, row 80 (i.2.map (Value.int .i64))) :: (b1, .cells #[.int .i64 (0), .int .i64 (0), .int .i64 (0), .int .i64 (0), .int .i64 (0), .int .i64 (0), .int .i64 (0), .int .i64 (0), .int .i64 (0), .int .i64 (0), .int .i64 (0), .int .i64 (0), .int .i64 (0), .int .i64 (0), .int .i64 (0), .int .i64 (0), .int .i64 (0), .int .i64 (0), .int .i64 (0), .int .i64 (0), .int .i64 (0), .int .i64 (0), .int .i64 (0), .int .i64 (0), .int .i64 (0), .int .u64 (0)] 26 (0, 0)) :: M) (fun i => i.1 ≤ 20 ∧ i.2.length = 20 ∧ ∀ x ∈ i.2, 0 ≤ x ∧ x < 100000) (fun i => 20 - i.1) (0, List.replicate 20 0) ?_ (Sub.cons rfl (Sub.cons rfl (Sub.cons rfl (Sub.cons rfl (Sub.cons rfl (Sub.nil _)))))) (fun _ h => h) ?_
 · exact ⟨by omega, by simp, fun x hx => by have := List.eq_of_mem_replicate hx; omega⟩
 rintro ⟨i, q⟩ ⟨hi, hq, hb⟩
 dsimp only at hi hq hb ⊢
 refine TC.seq ?_
 refine TC.sr ?_
 refine TL.v (Val.move rfl) ?_
 refine TL.v (Val.move rfl) ?_
 refine TL.v (Val.lenSl rfl rfl sl22) ?_
 refine TL.v (Val.lss rfl rfl) ?_
 refine TL.v (Val.move rfl) ?_
 refine TL.gen (fun g5 hg5 => ?_)
 refine TL.gv rfl rfl rfl (fun hg => by subst hg; exact (Val.move rfl)) ?_
 refine TL.gv rfl rfl rfl (fun hg => by subst hg; exact (Val.lss rfl rfl)) ?_
 refine TL.v (Val.pickAnd rfl rfl rfl) ?_
 refine TL.nt ?_
 refine TC.cond rfl (fun c1 => ?_) (fun c1 => ?_)
 ·
  refine TC.skip ?_
  refine AtX.then ?_
  refine TC.seq ?_
  refine TC.block ?_
  have hlt : i < zs.length ∧ i < 20 := by grind
  obtain ⟨x, hx⟩ : ∃ x, zs[i]? = some x := ⟨_, List.getElem?_eq_getElem hlt.1⟩
  obtain ⟨bA, oA, rfl, hR⟩ := RdS.get hA (by simp; omega)
  obtain ⟨r, hr, gr, lr⟩ := rem_ex (m := IntKind.u64.wrap x) (d := 100000) (by rw [w_u64m]; omega) (by decide)
  refine TC.region ?_
  refine TL.v (Val.move rfl) ?_
  refine TL.v (Val.move rfl) ?_
  refine TL.v (Val.move rfl) ?_
  refine TL.v (Val.indexAddr (i := i) (r := oA + i) rfl rfl sl22 sz3 rfl hlt.1 (by omega)) ?_
  refine TL.v (Val.loadRd (o := oA) (j := i) rfl ag3 (((hR.cons _).cons _).cons _) rfl (map_get hx)) ?_
  refine TL.v (Val.convI rfl iu3 in37 rfl) ?_
  refine TL.v (Val.rem rfl rfl (by decide) (r := r) hr) ?_
  refine TL.v (Val.convI rfl iu37 in3 (w_i64 (by omega) (by omega))) ?_
  refine TL.v (Val.indexAddrA (i := i) (r := i) rfl rfl ar80 sz3 rfl hlt.2 (by omega)) ?_
  refine TL.d (Does.storeR 1 rfl rfl rfl sz3 rfl rfl (by simp; omega) (map_set1 (f := Value.int .i64) (by omega) r)) ?_
  rintro _ _ ⟨rfl, rfl⟩
  refine TL.nil ?_
  refine AtX.blk ?_
  refine AtX.then ?_
  refine TC.region ?_
  refine TL.v (Val.move rfl) ?_
  refine TL.v (Val.add rfl rfl (w_i64 (by omega) (by omega))) ?_
  refine TL.v (Val.assign rfl) ?_
  refine TL.nil ?_
  refine AtX.round (i := (i, q)) (i + 1, q.set i r) ?_ ?_ (Sub.cons rfl (Sub.cons rfl (Sub.cons rfl (Sub.cons rfl (Sub.cons rfl (Sub.nil _)))))) (fun _ h => h)
  · exact ⟨by omega, by simpa using hq, set_bd hb ⟨gr, lr⟩⟩
  · show 20 - (i + 1) < 20 - i; omega
 ·
  refine TC.exit ?_
  refine AtX.seqX ?_
  refine AtX.seqX ?_
  refine AtX.hit ?_
  refine AtX.then ?_
  refine TC.en (E' := [(0, _), (2, _), (3, _), (4, _)]) ?_
  refine TC.seq ?_
  refine TC.sr ?_
  refine TL.v (Val.move rfl) ?_
  refine TL.v (Val.lenSl rfl rfl sl22) ?_
  refine TL.v (Val.eqlI rfl rfl) ?_
  refine TL.nt ?_
  refine TC.en (E' := [(2, _), (3, _), (4, _), (29, _)]) ?_
  refine TC.condP rfl (fun c2 => ?_) (fun c2 => ?_)
  ·
   refine TC.en (E' := [(2, _), (3, _), (4, _)]) ?_
   refine TC.sr ?_
   refine TL.v (Val.loadAgg (vs := [.int .i64 (4), .int .i64 (1), .int .i64 (1), .int .i64 (3), .int .i64 (2), .int .i64 (2), .int .i64 (32), .int .i64 (1000), .int .i64 (0), .int .i64 (0), .int .i64 (0), .int .i64 (100), .int .i64 (1), .int .i64 (100), .int .i64 (0), .int .i64 (3), .int .i64 (4), .int .i64 (100), .int .i64 (4), .int .i64 (50), .int .i64 (2), .int .i64 (100), .int .i64 (3), .int .i64 (4), .int .i64 (256), .int .u64 (1)]) 0 rfl ag26 sz26 rfl rfl rfl) ?_
   refine TL.d (Does.storeR (ys' := [.int .i64 (4), .int .i64 (1), .int .i64 (1), .int .i64 (3), .int .i64 (2), .int .i64 (2), .int .i64 (32), .int .i64 (1000), .int .i64 (0), .int .i64 (0), .int .i64 (0), .int .i64 (100), .int .i64 (1), .int .i64 (100), .int .i64 (0), .int .i64 (3), .int .i64 (4), .int .i64 (100), .int .i64 (4), .int .i64 (50), .int .i64 (2), .int .i64 (100), .int .i64 (3), .int .i64 (4), .int .i64 (256), .int .u64 (1)]) 2 rfl rfl rfl sz26 rfl rfl (by exact Nat.le_of_ble_eq_true rfl) rfl) ?_
   rintro _ _ ⟨rfl, rfl⟩
   refine TL.nt ?_
   refine TC.en (E' := [(2, _), (3, _), (4, _)]) ?_
   refine TC.ret1 (fn := Tryz.f5) (fun _ _ h => h) rfl (RV.agg (i := 2) rfl ag26 sz26 rfl rfl rfl) (M' := M) (by repeat (first | exact ro_refl | exact ro_pre | refine ro_tail ?_ | refine ro_app ?_)) ?_
   exact ⟨cfD, rfl, okD, rfl⟩
  ·
   refine TC.en (E' := [(2, _), (3, _), (4, _)]) ?_
   refine TC.skip ?_
   refine AtX.then ?_
   refine TC.en (E' := [(2, _), (3, _), (4, _)]) ?_
   refine TC.seq ?_
   obtain ⟨q0, q1, q2, q3, q4, q5, q6, q7, q8, q9, q10, q11, q12, q13, q14, q15, q16, q17, q18, q19, rfl⟩ := list20 hq
   simp only [List.mem_cons, List.not_mem_nil, or_false, forall_eq_or_imp, forall_eq] at hb
   obtain ⟨hq0, hq1, hq2, hq3, hq4, hq5, hq6, hq7, hq8, hq9, hq10, hq11, hq12, hq13, hq14, hq15, hq16, hq17, hq18, hq19⟩ := hb
   obtain ⟨a0, ha0, ga0, la0⟩ := rem_ex (m := q0) (d := 3) (by omega) (by decide)
   obtain ⟨a1, ha1, ga1, la1⟩ := rem_ex (m := q1) (d := 4) (by omega) (by decide)
   obtain ⟨a2, ha2, ga2, la2⟩ := rem_ex (m := q2) (d := 2) (by omega) (by decide)
   obtain ⟨a4, ha4, ga4, la4⟩ := rem_ex (m := q4) (d := 3) (by omega) (by decide)
   obtain ⟨a5, ha5, ga5, la5⟩ := rem_ex (m := q5) (d := 3) (by omega) (by decide)
   obtain ⟨a6, ha6, ga6, la6⟩ := rem_ex (m := q6) (d := 64) (by omega) (by decide)
   obtain ⟨a7, ha7, ga7, la7⟩ := rem_ex (m := q7) (d := 2000) (by omega) (by decide)
   obtain ⟨a8, ha8, ga8, la8⟩ := rem_ex (m := q8) (d := 2000) (by omega) (by decide)
   obtain ⟨a9, ha9, ga9, la9⟩ := rem_ex (m := q9) (d := 300) (by omega) (by decide)
   obtain ⟨a10, ha10, ga10, la10⟩ := rem_ex (m := q10) (d := 5) (by omega) (by decide)
   obtain ⟨a11, ha11, ga11, la11⟩ := rem_ex (m := q11) (d := 4) (by omega) (by decide)
   obtain ⟨a12, ha12, ga12, la12⟩ := rem_ex (m := q12) (d := 5) (by omega) (by decide)
   obtain ⟨a13, ha13, ga13, la13⟩ := rem_ex (m := q13) (d := 5) (by omega) (by decide)
   obtain ⟨a14, ha14, ga14, la14⟩ := rem_ex (m := q14) (d := 5) (by omega) (by decide)
   obtain ⟨a15, ha15, ga15, la15⟩ := rem_ex (m := q15) (d := 4) (by omega) (by decide)
   obtain ⟨a16, ha16, ga16, la16⟩ := rem_ex (m := q16) (d := 500) (by omega) (by decide)
   obtain ⟨a17, ha17, ga17, la17⟩ := rem_ex (m := q17) (d := 3) (by omega) (by decide)
   obtain ⟨a18, ha18, ga18, la18⟩ := rem_ex (m := q18) (d := 300) (by omega) (by decide)
   obtain ⟨b10, hb10, gb10, lb10⟩ := quo_ex (m := q10) (d := 5) (by omega) (by decide)
   obtain ⟨b13, hb13, gb13, lb13⟩ := quo_ex (m := q13) (d := 5) (by omega) (by decide)
   obtain ⟨b14, hb14, gb14, lb14⟩ := quo_ex (m := q14) (d := 5) (by omega) (by decide)
   obtain ⟨b17, hb17, gb17, lb17⟩ := quo_ex (m := q17) (d := 3) (by omega) (by decide)
   obtain ⟨c10, hc10, gc10, lc10⟩ := rem_ex (m := b10) (d := 60) (by omega) (by decide)
   obtain ⟨c13, hc13, gc13, lc13⟩ := rem_ex (m := b13) (d := 150) (by omega) (by decide)
   obtain ⟨c14, hc14, gc14, lc14⟩ := rem_ex (m := b14) (d := 100) (by omega) (by decide)
   obtain ⟨c17, hc17, gc17, lc17⟩ := rem_ex (m := b17) (d := 4) (by omega) (by decide)
   obtain ⟨a3, ha3, ga3, la3⟩ := rem_ex (m := q3) (d := 3 * a0 + 1 + a1 - 2 * a0) (by omega) (by omega)
   refine TC.heap (M' := (b3, .cells #[.int .i64 (4), .int .i64 (1), .int .i64 (1), .int .i64 (3), .int .i64 (2), .int .i64 (2), .int .i64 (32), .int .i64 (1000), .int .i64 (0), .int .i64 (0), .int .i64 (0), .int .i64 (100), .int .i64 (1), .int .i64 (100), .int .i64 (0), .int .i64 (3), .int .i64 (4), .int .i64 (100), .int .i64 (4), .int .i64 (50), .int .i64 (2), .int .i64 (100), .int .i64 (3), .int .i64 (4), .int .i64 (256), .int .u64 (1)] 26 (0, 0)) :: (b4, .cells #[.int .i64 q0, .int .i64 q1, .int .i64 q2, .int .i64 q3, .int .i64 q4, .int .i64 q5, .int .i64 q6, .int .i64 q7, .int .i64 q8, .int .i64 q9, .int .i64 q10, .int .i64 q11, .int .i64 q12, .int .i64 q13, .int .i64 q14, .int .i64 q15, .int .i64 q16, .int .i64 q17, .int .i64 q18, .int .i64 q19] 80 (0, 0)) :: (b1, .cells #[.int .i64 (0), .int .i64 (0), .int .i64 (0), .int .i64 (0), .int .i64 (0), .int .i64 (0), .int .i64 (0), .int .i64 (0), .int .i64 (0), .int .i64 (0), .int .i64 (0), .int .i64 (0), .int .i64 (0), .int .i64 (0), .int .i64 (0), .int .i64 (0), .int .i64 (0), .int .i64 (0), .int .i64 (0), .int .i64 (0), .int .i64 (0), .int .i64 (0), .int .i64 (0), .int .i64 (0), .int .i64 (0), .int .u64 (0)] 26 (0, 0)) :: M) (fun w h => h) ?_
   refine TC.region ?_
   refine TL.v (Val.indexAddrA (i := 0) rfl rfl ar80 sz3 rfl (by first | decide | omega) rfl) ?_
   refine TL.v (Val.load 1 rfl ag3 rfl rfl) ?_
   refine TL.v (Val.rem rfl rfl (by first | decide | omega) (r := a0) ha0) ?_
   refine TL.v (Val.fieldAddr rfl fl26_1 sz3 rfl) ?_
   refine TL.d (Does.store (i := 0) rfl rfl rfl sz3 rfl rfl (by first | exact Nat.le_of_ble_eq_true rfl | decide | omega) rfl rfl) ?_
   rintro _ _ ⟨rfl, rfl⟩
   refine TL.nt ?_
   refine TC.en (E' := [(2, _), (3, _), (4, _)]) ?_
   refine TC.seq ?_
   refine TC.heap (M' := (b3, .cells #[.int .i64 (4), .int .i64 (a0), .int .i64 (1), .int .i64 (3), .int .i64 (2), .int .i64 (2), .int .i64 (32), .int .i64 (1000), .int .i64 (0), .int .i64 (0), .int .i64 (0), .int .i64 (100), .int .i64 (1), .int .i64 (100), .int .i64 (0), .int .i64 (3), .int .i64 (4), .int .i64 (100), .int .i64 (4), .int .i64 (50), .int .i64 (2), .int .i64 (100), .int .i64 (3), .int .i64 (4), .int .i64 (256), .int .u64 (1)] 26 (0, 0)) :: (b4, .cells #[.int .i64 q0, .int .i64 q1, .int .i64 q2, .int .i64 q3, .int .i64 q4, .int .i64 q5, .int .i64 q6, .int .i64 q7, .int .i64 q8, .int .i64 q9, .int .i64 q10, .int .i64 q11, .int .i64 q12, .int .i64 q13, .int .i64 q14, .int .i64 q15, .int .i64 q16, .int .i64 q17, .int .i64 q18, .int .i64 q19] 80 (0, 0)) :: (b1, .cells #[.int .i64 (0), .int .i64 (0), .int .i64 (0), .int .i64 (0), .int .i64 (0), .int .i64 (0), .int .i64 (0), .int .i64 (0), .int .i64 (0), .int .i64 (0), .int .i64 (0), .int .i64 (0), .int .i64 (0), .int .i64 (0), .int .i64 (0), .int .i64 (0), .int .i64 (0), .int .i64 (0), .int .i64 (0), .int .i64 (0), .int .i64 (0), .int .i64 (0), .int .i64 (0), .int .i64 (0), .int .i64 (0), .int .u64 (0)] 26 (0, 0)) :: M) (fun w h => h) ?_
   refine TC.region ?_
   refine TL.v (Val.fieldAddr rfl fl26_1 sz3 rfl) ?_
   refine TL.v (Val.load 0 rfl ag3 rfl rfl) ?_
   refine TL.v (Val.mul rfl rfl (w_i64 (by omega) (by omega))) ?_
   refine TL.v (Val.add rfl rfl (w_i64 (by omega) (by omega))) ?_
   refine TL.v (Val.indexAddrA (i := 1) rfl rfl ar80 sz3 rfl (by first | decide | omega) rfl) ?_
   refine TL.v (Val.load 1 rfl ag3 rfl rfl) ?_
   refine TL.v (Val.rem rfl rfl (by first | decide | omega) (r := a1) ha1) ?_
   refine TL.v (Val.add rfl rfl (w_i64 (by omega) (by omega))) ?_
   refine TL.v (Val.fieldAddr rfl fl26_0 sz3 rfl) ?_
   refine TL.d (Does.store (i := 0) rfl rfl rfl sz3 rfl rfl (by first | exact Nat.le_of_ble_eq_true rfl | decide | omega) rfl rfl) ?_
   rintro _ _ ⟨rfl, rfl⟩
   refine TL.nt ?_
   refine TC.en (E' := [(2, _), (3, _), (4, _)]) ?_
   refine TC.seq ?_
   refine TC.heap (M' := (b3, .cells #[.int .i64 (3 * a0 + 1 + a1), .int .i64 (a0), .int .i64 (1), .int .i64 (3), .int .i64 (2), .int .i64 (2), .int .i64 (32), .int .i64 (1000), .int .i64 (0), .int .i64 (0), .int .i64 (0), .int .i64 (100), .int .i64 (1), .int .i64 (100), .int .i64 (0), .int .i64 (3), .int .i64 (4), .int .i64 (100), .int .i64 (4), .int .i64 (50), .int .i64 (2), .int .i64 (100), .int .i64 (3), .int .i64 (4), .int .i64 (256), .int .u64 (1)] 26 (0, 0)) :: (b4, .cells #[.int .i64 q0, .int .i64 q1, .int .i64 q2, .int .i64 q3, .int .i64 q4, .int .i64 q5, .int .i64 q6, .int .i64 q7, .int .i64 q8, .int .i64 q9, .int .i64 q10, .int .i64 q11, .int .i64 q12, .int .i64 q13, .int .i64 q14, .int .i64 q15, .int .i64 q16, .int .i64 q17, .int .i64 q18, .int .i64 q19] 80 (0, 0)) :: (b1, .cells #[.int .i64 (0), .int .i64 (0), .int .i64 (0), .int .i64 (0), .int .i64 (0), .int .i64 (0), .int .i64 (0), .int .i64 (0), .int .i64 (0), .int .i64 (0), .int .i64 (0), .int .i64 (0), .int .i64 (0), .int .i64 (0), .int .i64 (0), .int .i64 (0), .int .i64 (0), .int .i64 (0), .int .i64 (0), .int .i64 (0), .int .i64 (0), .int .i64 (0), .int .i64 (0), .int .i64 (0), .int .i64 (0), .int .u64 (0)] 26 (0, 0)) :: M) (fun w h => h) ?_
   refine TC.region ?_
   refine TL.v (Val.indexAddrA (i := 2) rfl rfl ar80 sz3 rfl (by first | decide | omega) rfl) ?_
   refine TL.v (Val.load 1 rfl ag3 rfl rfl) ?_
   refine TL.v (Val.rem rfl rfl (by first | decide | omega) (r := a2) ha2) ?_
   refine TL.v (Val.add rfl rfl (w_i64 (by omega) (by omega))) ?_
   refine TL.v (Val.fieldAddr rfl fl26_2 sz3 rfl) ?_
   refine TL.d (Does.store (i := 0) rfl rfl rfl sz3 rfl rfl (by first | exact Nat.le_of_ble_eq_true rfl | decide | omega) rfl rfl) ?_
   rintro _ _ ⟨rfl, rfl⟩
   refine TL.nt ?_
   refine TC.en (E' := [(2, _), (3, _), (4, _)]) ?_
   refine TC.seq ?_
   refine TC.heap (M' := (b3, .cells #[.int .i64 (3 * a0 + 1 + a1), .int .i64 (a0), .int .i64 (1 + a2), .int .i64 (3), .int .i64 (2), .int .i64 (2), .int .i64 (32), .int .i64 (1000), .int .i64 (0), .int .i64 (0), .int .i64 (0), .int .i64 (100), .int .i64 (1), .int .i64 (100), .int .i64 (0), .int .i64 (3), .int .i64 (4), .int .i64 (100), .int .i64 (4), .int .i64 (50), .int .i64 (2), .int .i64 (100), .int .i64 (3), .int .i64 (4), .int .i64 (256), .int .u64 (1)] 26 (0, 0)) :: (b4, .cells #[.int .i64 q0, .int .i64 q1, .int .i64 q2, .int .i64 q3, .int .i64 q4, .int .i64 q5, .int .i64 q6, .int .i64 q7, .int .i64 q8, .int .i64 q9, .int .i64 q10, .int .i64 q11, .int .i64 q12, .int .i64 q13, .int .i64 q14, .int .i64 q15, .int .i64 q16, .int .i64 q17, .int .i64 q18, .int .i64 q19] 80 (0, 0)) :: (b1, .cells #[.int .i64 (0), .int .i64 (0), .int .i64 (0), .int .i64 (0), .int .i64 (0), .int .i64 (0), .int .i64 (0), .int .i64 (0), .int .i64 (0), .int .i64 (0), .int .i64 (0), .int .i64 (0), .int .i64 (0), .int .i64 (0), .int .i64 (0), .int .i64 (0), .int .i64 (0), .int .i64 (0), .int .i64 (0), .int .i64 (0), .int .i64 (0), .int .i64 (0), .int .i64 (0), .int .i64 (0), .int .i64 (0), .int .u64 (0)] 26 (0, 0)) :: M) (fun w h => h) ?_
   refine TC.drawG [15] ((b4, .cells #[.int .i64 q0, .int .i64 q1, .int .i64 q2, .int .i64 q3, .int .i64 q4, .int .i64 q5, .int .i64 q6, .int .i64 q7, .int .i64 q8, .int .i64 q9, .int .i64 q10, .int .i64 q11, .int .i64 q12, .int .i64 q13, .int .i64 q14, .int .i64 q15, .int .i64 q16, .int .i64 q17, .int .i64 q18, .int .i64 q19] 80 (0, 0)) :: (b1, .cells #[.int .i64 (0), .int .i64 (0), .int .i64 (0), .int .i64 (0), .int .i64 (0), .int .i64 (0), .int .i64 (0), .int .i64 (0), .int .i64 (0), .int .i64 (0), .int .i64 (0), .int .i64 (0), .int .i64 (0), .int .i64 (0), .int .i64 (0), .int .i64 (0), .int .i64 (0), .int .i64 (0), .int .i64 (0), .int .i64 (0), .int .i64 (0), .int .i64 (0), .int .i64 (0), .int .i64 (0), .int .i64 (0), .int .u64 (0)] 26 (0, 0)) :: M) mixed 16 ?_
   refine TG.tk false 0 1 rfl rfl rfl (Val.fieldAddr rfl fl26_1 sz3 rfl) ?_
   refine TG.tk false 1 3 rfl rfl rfl (Val.load 0 rfl ag3 rfl rfl) ?_
   refine TG.tk false 2 7 rfl rfl rfl (Val.mul rfl rfl (w_i64 (by omega) (by omega))) ?_
   refine TG.tk false 3 15 rfl rfl rfl (Val.add rfl rfl (w_i64 (by omega) (by omega))) ?_
   refine TG.tk false 4 31 rfl rfl rfl (Val.indexAddrA (i := 3) rfl rfl ar80 sz3 rfl (by first | decide | omega) rfl) ?_
   refine TG.tk false 5 63 rfl rfl rfl (Val.load 1 rfl ag3 rfl rfl) ?_
   refine TG.tk false 6 127 rfl rfl rfl (Val.fieldAddr rfl fl26_0 sz3 rfl) ?_
   refine TG.tk false 7 255 rfl rfl rfl (Val.load 0 rfl ag3 rfl rfl) ?_
   refine TG.tk false 8 511 rfl rfl rfl (Val.fieldAddr rfl fl26_1 sz3 rfl) ?_
   refine TG.tk false 9 1023 rfl rfl rfl (Val.load 0 rfl ag3 rfl rfl) ?_
   refine TG.tk false 10 2047 rfl rfl rfl (Val.mul rfl rfl (w_i64 (by omega) (by omega))) ?_
   refine TG.tk false 11 4095 rfl rfl rfl (Val.sub rfl rfl (w_i64 (by omega) (by omega))) ?_
   refine TG.tk false 12 8191 rfl rfl rfl (Val.rem rfl rfl (by first | decide | omega) (r := a3) ha3) ?_
   refine TG.tk false 13 16383 rfl rfl rfl (Val.add rfl rfl (w_i64 (by omega) (by omega))) ?_
   refine TG.tk false 14 32767 rfl rfl rfl (Val.fieldAddr rfl fl26_3 sz3 rfl) ?_
   refine TG.one 15 (by kernel_rfl) ?_
   refine TP.dz true 65535 none rfl rfl rfl rfl (Does.store (i := 0) rfl rfl rfl sz3 rfl rfl (by first | exact Nat.le_of_ble_eq_true rfl | decide | omega) rfl rfl) ?_
   rintro _ _ ⟨rfl, rfl⟩
   refine roK ?_
   refine TG.done (by kernel_rfl) ?_ _
   refine AtX.then ?_
   refine TC.en (E' := [(2, _), (3, _), (4, _)]) ?_
   refine TC.seq ?_
   refine TC.heap (M' := (b3, .cells #[.int .i64 (3 * a0 + 1 + a1), .int .i64 (a0), .int .i64 (1 + a2), .int .i64 (2 * a0 + 1 + a3), .int .i64 (2), .int .i64 (2), .int .i64 (32), .int .i64 (1000), .int .i64 (0), .int .i64 (0), .int .i64 (0), .int .i64 (100), .int .i64 (1), .int .i64 (100), .int .i64 (0), .int .i64 (3), .int .i64 (4), .int .i64 (100), .int .i64 (4), .int .i64 (50), .int .i64 (2), .int .i64 (100), .int .i64 (3), .int .i64 (4), .int .i64 (256), .int .u64 (1)] 26 (0, 0)) :: (b4, .cells #[.int .i64 q0, .int .i64 q1, .int .i64 q2, .int .i64 q3, .int .i64 q4, .int .i64 q5, .int .i64 q6, .int .i64 q7, .int .i64 q8, .int .i64 q9, .int .i64 q10, .int .i64 q11, .int .i64 q12, .int .i64 q13, .int .i64 q14, .int .i64 q15, .int .i64 q16, .int .i64 q17, .int .i64 q18, .int .i64 q19] 80 (0, 0)) :: (b1, .cells #[.int .i64 (0), .int .i64 (0), .int .i64 (0), .int .i64 (0), .int .i64 (0), .int .i64 (0), .int .i64 (0), .int .i64 (0), .int .i64 (0), .int .i64 (0), .int .i64 (0), .int .i64 (0), .int .i64 (0), .int .i64 (0), .int .i64 (0), .int .i64 (0), .int .i64 (0), .int .i64 (0), .int .i64 (0), .int .i64 (0), .int .i64 (0), .int .i64 (0), .int .i64 (0), .int .i64 (0), .int .i64 (0), .int .u64 (0)] 26 (0, 0)) :: M) (fun w h => h) ?_
   refine TC.drawL ((b4, .cells #[.int .i64 q0, .int .i64 q1, .int .i64 q2, .int .i64 q3, .int .i64 q4, .int .i64 q5, .int .i64 q6, .int .i64 q7, .int .i64 q8, .int .i64 q9, .int .i64 q10, .int .i64 q11, .int .i64 q12, .int .i64 q13, .int .i64 q14, .int .i64 q15, .int .i64 q16, .int .i64 q17, .int .i64 q18, .int .i64 q19] 80 (0, 0)) :: (b1, .cells #[.int .i64 (0), .int .i64 (0), .int .i64 (0), .int .i64 (0), .int .i64 (0), .int .i64 (0), .int .i64 (0), .int .i64 (0), .int .i64 (0), .int .i64 (0), .int .i64 (0), .int .i64 (0), .int .i64 (0), .int .i64 (0), .int .i64 (0), .int .i64 (0), .int .i64 (0), .int .i64 (0), .int .i64 (0), .int .i64 (0), .int .i64 (0), .int .i64 (0), .int .i64 (0), .int .i64 (0), .int .i64 (0), .int .u64 (0)] 26 (0, 0)) :: M) mixed 18 ?_
   refine TA.tk 0 1 rfl rfl rfl (Val.indexAddrA (i := 4) rfl rfl ar80 sz3 rfl (by first | decide | omega) rfl) ?_
   refine TA.tk 1 3 rfl rfl rfl (Val.load 0 rfl ag3 rfl rfl) ?_
   refine TA.tk 2 7 rfl rfl rfl (Val.rem rfl rfl (by first | decide | omega) (r := a4) ha4) ?_
   refine TA.tk 3 15 rfl rfl rfl (Val.add rfl rfl (w_i64 (by omega) (by omega))) ?_
   refine TA.tk 4 31 rfl rfl rfl (Val.indexAddrA (i := 5) rfl rfl ar80 sz3 rfl (by first | decide | omega) rfl) ?_
   refine TA.tk 5 63 rfl rfl rfl (Val.load 0 rfl ag3 rfl rfl) ?_
   refine TA.tk 6 127 rfl rfl rfl (Val.rem rfl rfl (by first | decide | omega) (r := a5) ha5) ?_
   refine TA.tk 7 255 rfl rfl rfl (Val.add rfl rfl (w_i64 (by omega) (by omega))) ?_
   refine TA.tk 8 511 rfl rfl rfl (Val.indexAddrA (i := 6) rfl rfl ar80 sz3 rfl (by first | decide | omega) rfl) ?_
   refine TA.tk 9 1023 rfl rfl rfl (Val.load 0 rfl ag3 rfl rfl) ?_
   refine TA.tk 10 2047 rfl rfl rfl (Val.rem rfl rfl (by first | decide | omega) (r := a6) ha6) ?_
   refine TA.tk 11 4095 rfl rfl rfl (Val.add rfl rfl (w_i64 (by omega) (by omega))) ?_
   refine TA.tk 12 8191 rfl rfl rfl (Val.fieldAddr rfl fl26_4 sz3 rfl) ?_
   refine TA.one 13 (by kernel_rfl) ?_
   refine TO.dz 16383 none rfl rfl rfl rfl (Does.store (i := 0) rfl rfl rfl sz3 rfl rfl (by first | exact Nat.le_of_ble_eq_true rfl | decide | omega) rfl rfl) ?_
   rintro _ _ ⟨rfl, rfl⟩
   refine roK ?_
   refine TA.tk 14 32767 rfl rfl rfl (Val.fieldAddr rfl fl26_5 sz3 rfl) ?_
   refine TA.one 15 (by kernel_rfl) ?_
   refine TO.dz 65535 none rfl rfl rfl rfl (Does.store (i := 0) rfl rfl rfl sz3 rfl rfl (by first | exact Nat.le_of_ble_eq_true rfl | decide | omega) rfl rfl) ?_
   rintro _ _ ⟨rfl, rfl⟩
   refine roK ?_
   refine TA.tk 16 131071 rfl rfl rfl (Val.fieldAddr rfl fl26_6 sz3 rfl) ?_
   refine TA.one 17 (by kernel_rfl) ?_
   refine TO.dz 262143 none rfl rfl rfl rfl (Does.store (i := 0) rfl rfl rfl sz3 rfl rfl (by first | exact Nat.le_of_ble_eq_true rfl | decide | omega) rfl rfl) ?_
   rintro _ _ ⟨rfl, rfl⟩
   refine roK ?_
   refine TA.done (by kernel_rfl) ?_
   refine AtX.then ?_
   refine TC.en (E' := [(2, _), (3, _), (4, _)]) ?_
   refine TC.seq ?_
   refine TC.heap (M' := (b3, .cells #[.int .i64 (3 * a0 + 1 + a1), .int .i64 (a0), .int .i64 (1 + a2), .int .i64 (2 * a0 + 1 + a3), .int .i64 (1 + a4), .int .i64 (1 + a5), .int .i64 (1 + a6), .int .i64 (1000), .int .i64 (0), .int .i64 (0), .int .i64 (0), .int .i64 (100), .int .i64 (1), .int .i64 (100), .int .i64 (0), .int .i64 (3), .int .i64 (4), .int .i64 (100), .int .i64 (4), .int .i64 (50), .int .i64 (2), .int .i64 (100), .int .i64 (3), .int .i64 (4), .int .i64 (256), .int .u64 (1)] 26 (0, 0)) :: (b4, .cells #[.int .i64 q0, .int .i64 q1, .int .i64 q2, .int .i64 q3, .int .i64 q4, .int .i64 q5, .int .i64 q6, .int .i64 q7, .int .i64 q8, .int .i64 q9, .int .i64 q10, .int .i64 q11, .int .i64 q12, .int .i64 q13, .int .i64 q14, .int .i64 q15, .int .i64 q16, .int .i64 q17, .int .i64 q18, .int .i64 q19] 80 (0, 0)) :: (b1, .cells #[.int .i64 (0), .int .i64 (0), .int .i64 (0), .int .i64 (0), .int .i64 (0), .int .i64 (0), .int .i64 (0), .int .i64 (0), .int .i64 (0), .int .i64 (0), .int .i64 (0), .int .i64 (0), .int .i64 (0), .int .i64 (0), .int .i64 (0), .int .i64 (0), .int .i64 (0), .int .i64 (0), .int .i64 (0), .int .i64 (0), .int .i64 (0), .int .i64 (0), .int .i64 (0), .int .i64 (0), .int .i64 (0), .int .u64 (0)] 26 (0, 0)) :: M) (fun w h => h) ?_
   refine TC.region ?_
   refine TL.v (Val.fieldAddr rfl fl26_7 sz23 rfl) ?_
   refine TL.v (Val.indexAddrA (i := 1) rfl rfl ar23 sz2 rfl (by first | decide | omega) rfl) ?_
   refine TL.d (Does.store (i := 0) rfl rfl rfl sz2 rfl rfl (by first | exact Nat.le_of_ble_eq_true rfl | decide | omega) rfl rfl) ?_
   rintro _ _ ⟨rfl, rfl⟩
   refine TL.nt ?_
   refine TC.en (E' := [(2, _), (3, _), (4, _)]) ?_
   refine TC.seq ?_
   refine TC.sr ?_
   refine TL.v (Val.assign rfl) ?_
   refine TL.nt ?_
   refine TC.en (E' := [(2, _), (3, _), (4, _), (6, _)]) ?_
   refine TC.block ?_
   refine TC.loop (ι := Nat) (fun i => [(2, .pointer (some ⟨b1, 0, none⟩)), (3, .pointer (some ⟨b3, 0, none⟩)), (4, .pointer (some ⟨b4, 0, none⟩)), (6, .int .i64 (i : Nat))]) (fun i => (b3, .cells #[.int .i64 (3 * a0 + 1 + a1), .int .i64 (a0), .int .i64 (1 + a2), .int .i64 (2 * a0 + 1 + a3), .int .i64 (1 + a4), .int .i64 (1 + a5), .int .i64 (1 + a6), .int .i64 (if 0 < i then 1 + a7 else 1000), .int .i64 (if 1 < i then 1 + a8 else 0), .int .i64 (0), .int .i64 (0), .int .i64 (100), .int .i64 (1), .int .i64 (100), .int .i64 (0), .int .i64 (3), .int .i64 (4), .int .i64 (100), .int .i64 (4), .int .i64 (50), .int .i64 (2), .int .i64 (100), .int .i64 (3), .int .i64 (4), .int .i64 (256), .int .u64 (1)] 26 (0, 0)) :: (b4, .cells #[.int .i64 q0, .int .i64 q1, .int .i64 q2, .int .i64 q3, .int .i64 q4, .int .i64 q5, .int .i64 q6, .int .i64 q7, .int .i64 q8, .int .i64 q9, .int .i64 q10, .int .i64 q11, .int .i64 q12, .int .i64 q13, .int .i64 q14, .int .i64 q15, .int .i64 q16, .int .i64 q17, .int .i64 q18, .int .i64 q19] 80 (0, 0)) :: (b1, .cells #[.int .i64 (0), .int .i64 (0), .int .i64 (0), .int .i64 (0), .int .i64 (0), .int .i64 (0), .int .i64 (0), .int .i64 (0), .int .i64 (0), .int .i64 (0), .int .i64 (0), .int .i64 (0), .int .i64 (0), .int .i64 (0), .int .i64 (0), .int .i64 (0), .int .i64 (0), .int .i64 (0), .int .i64 (0), .int .i64 (0), .int .i64 (0), .int .i64 (0), .int .i64 (0), .int .i64 (0), .int .i64 (0), .int .u64 (0)] 26 (0, 0)) :: M) (fun i => (i : Int) ≤ 1 + a2) (fun i => 2 - i) 0 ?_ (Sub.cons rfl (Sub.cons rfl (Sub.cons rfl (Sub.cons rfl (Sub.nil _))))) (fun _ h => h) ?_
   · show ((0 : Nat) : Int) ≤ 1 + a2; omega
   intro i hi
   refine TC.seq ?_
   refine TC.sr ?_
   refine TL.v (Val.move rfl) ?_
   refine TL.v (Val.fieldAddr rfl fl26_2 sz3 rfl) ?_
   refine TL.v (Val.load 0 rfl ag3 rfl rfl) ?_
   refine TL.v (Val.lss rfl rfl) ?_
   refine TL.nt ?_
   refine TC.condP rfl (fun c3 => ?_) (fun c3 => ?_)
   ·
    refine TC.skip ?_
    refine AtX.then ?_
    refine TC.seq ?_
    refine TC.block ?_
    have hi01 : i = 0 ∨ i = 1 := by omega
    refine TC.region ?_
    refine TL.v (Val.move rfl) ?_
    refine TL.v (Val.move rfl) ?_
    refine TL.v (Val.add rfl rfl (r := ((7 + i : Nat) : Int)) (by rw [w_i64 (by omega) (by omega)]; push_cast; rfl)) ?_
    refine TL.v (Val.indexAddrA (i := 7 + i) (r := 7 + i) rfl rfl ar80 sz3 rfl (by omega) (by omega)) ?_
    refine TL.v (Val.load 1 rfl ag3 rfl (v := .int .i64 (if i = 0 then q7 else q8)) (by rcases hi01 with rfl | rfl <;> rfl)) ?_
    refine TL.v (Val.rem rfl rfl (by decide) (r := if i = 0 then a7 else a8) (by rcases hi01 with rfl | rfl <;> assumption)) ?_
    refine TL.v (Val.add rfl rfl (r := 1 + (if i = 0 then a7 else a8)) (w_i64 (by split <;> omega) (by split <;> omega))) ?_
    refine TL.v (Val.fieldAddr rfl fl26_7 sz23 rfl) ?_
    refine TL.v (Val.indexAddrA (i := i) (r := 7 + i) rfl rfl ar23 sz2 rfl (by omega) (by omega)) ?_
    refine TL.d (Does.store (i := 0) (cs' := #[.int .i64 (3 * a0 + 1 + a1), .int .i64 (a0), .int .i64 (1 + a2), .int .i64 (2 * a0 + 1 + a3), .int .i64 (1 + a4), .int .i64 (1 + a5), .int .i64 (1 + a6), .int .i64 (if 0 < i + 1 then 1 + a7 else 1000), .int .i64 (if 1 < i + 1 then 1 + a8 else 0), .int .i64 (0), .int .i64 (0), .int .i64 (100), .int .i64 (1), .int .i64 (100), .int .i64 (0), .int .i64 (3), .int .i64 (4), .int .i64 (100), .int .i64 (4), .int .i64 (50), .int .i64 (2), .int .i64 (100), .int .i64 (3), .int .i64 (4), .int .i64 (256), .int .u64 (1)]) (M' := (b3, .cells #[.int .i64 (3 * a0 + 1 + a1), .int .i64 (a0), .int .i64 (1 + a2), .int .i64 (2 * a0 + 1 + a3), .int .i64 (1 + a4), .int .i64 (1 + a5), .int .i64 (1 + a6), .int .i64 (if 0 < i + 1 then 1 + a7 else 1000), .int .i64 (if 1 < i + 1 then 1 + a8 else 0), .int .i64 (0), .int .i64 (0), .int .i64 (100), .int .i64 (1), .int .i64 (100), .int .i64 (0), .int .i64 (3), .int .i64 (4), .int .i64 (100), .int .i64 (4), .int .i64 (50), .int .i64 (2), .int .i64 (100), .int .i64 (3), .int .i64 (4), .int .i64 (256), .int .u64 (1)] 26 (0, 0)) :: (b4, .cells #[.int .i64 q0, .int .i64 q1, .int .i64 q2, .int .i64 q3, .int .i64 q4, .int .i64 q5, .int .i64 q6, .int .i64 q7, .int .i64 q8, .int .i64 q9, .int .i64 q10, .int .i64 q11, .int .i64 q12, .int .i64 q13, .int .i64 q14, .int .i64 q15, .int .i64 q16, .int .i64 q17, .int .i64 q18, .int .i64 q19] 80 (0, 0)) :: (b1, .cells #[.int .i64 (0), .int .i64 (0), .int .i64 (0), .int .i64 (0), .int .i64 (0), .int .i64 (0), .int .i64 (0), .int .i64 (0), .int .i64 (0), .int .i64 (0), .int .i64 (0), .int .i64 (0), .int .i64 (0), .int .i64 (0), .int .i64 (0), .int .i64 (0), .int .i64 (0), .int .i64 (0), .int .i64 (0), .int .i64 (0), .int .i64 (0), .int .i64 (0), .int .i64 (0), .int .i64 (0), .int .i64 (0), .int .u64 (0)] 26 (0, 0)) :: M) rfl rfl rfl sz2 rfl rfl (by show 7 + i + 1 ≤ 26; omega) (by rcases hi01 with rfl | rfl <;> rfl) rfl) ?_
    rintro _ _ ⟨rfl, rfl⟩
    refine TL.nil ?_
    refine AtX.blk ?_
    refine AtX.then ?_
    refine TC.region ?_
    refine TL.v (Val.move rfl) ?_
    refine TL.v (Val.add rfl rfl (w_i64 (by omega) (by omega))) ?_
    refine TL.v (Val.assign rfl) ?_
    refine TL.nil ?_
    refine AtX.round (i + 1) ?_ ?_ (Sub.cons rfl (Sub.cons rfl (Sub.cons rfl (Sub.cons rfl (Sub.nil _))))) (fun _ h => h)
    · show ((i + 1 : Nat) : Int) ≤ 1 + a2; omega
    · omega
   ·
    refine TC.exit ?_
    refine AtX.seqX ?_
    refine AtX.seqX ?_
    refine AtX.hit ?_
    refine AtX.then ?_
    refine TC.en (E' := [(2, _), (3, _), (4, _)]) ?_
    refine TC.seq ?_
    obtain ⟨T0, hT0⟩ : ∃ T0 : Int, T0 = if 0 < i then 1 + a7 else 1000 := ⟨_, rfl⟩
    obtain ⟨T1, hT1⟩ : ∃ T1 : Int, T1 = if 1 < i then 1 + a8 else 0 := ⟨_, rfl⟩
    rw [← hT0, ← hT1]
    have hT0b : 1 ≤ T0 ∧ T0 ≤ 2000 := by rw [hT0]; split <;> omega
    have hT1b : (1 < 1 + a2 → 1 ≤ T1 ∧ T1 ≤ 2000) ∧ (1 + a2 ≤ 1 → T1 = 0) := by rw [hT1]; split <;> omega
    refine TC.region ?_
    refine TL.v (Val.indexAddrA (i := 9) rfl rfl ar80 sz3 rfl (by first | decide | omega) rfl) ?_
    refine TL.v (Val.load 1 rfl ag3 rfl rfl) ?_
    refine TL.v (Val.rem rfl rfl (by first | decide | omega) (r := a9) ha9) ?_
    refine TL.v (Val.fieldAddr rfl fl26_8 sz3 rfl) ?_
    refine TL.d (Does.store (i := 0) rfl rfl rfl sz3 rfl rfl (by first | exact Nat.le_of_ble_eq_true rfl | decide | omega) rfl rfl) ?_
    rintro _ _ ⟨rfl, rfl⟩
    refine TL.nt ?_
    refine TC.en (E' := [(2, _), (3, _), (4, _)]) ?_
    refine TC.seq ?_
    refine TC.heap (M' := (b3, .cells #[.int .i64 (3 * a0 + 1 + a1), .int .i64 (a0), .int .i64 (1 + a2), .int .i64 (2 * a0 + 1 + a3), .int .i64 (1 + a4), .int .i64 (1 + a5), .int .i64 (1 + a6), .int .i64 (T0), .int .i64 (T1), .int .i64 (0), .int .i64 (0), .int .i64 (a9), .int .i64 (1), .int .i64 (100), .int .i64 (0), .int .i64 (3), .int .i64 (4), .int .i64 (100), .int .i64 (4), .int .i64 (50), .int .i64 (2), .int .i64 (100), .int .i64 (3), .int .i64 (4), .int .i64 (256), .int .u64 (1)] 26 (0, 0)) :: (b4, .cells #[.int .i64 q0, .int .i64 q1, .int .i64 q2, .int .i64 q3, .int .i64 q4, .int .i64 q5, .int .i64 q6, .int .i64 q7, .int .i64 q8, .int .i64 q9, .int .i64 q10, .int .i64 q11, .int .i64 q12, .int .i64 q13, .int .i64 q14, .int .i64 q15, .int .i64 q16, .int .i64 q17, .int .i64 q18, .int .i64 q19] 80 (0, 0)) :: (b1, .cells #[.int .i64 (0), .int .i64 (0), .int .i64 (0), .int .i64 (0), .int .i64 (0), .int .i64 (0), .int .i64 (0), .int .i64 (0), .int .i64 (0), .int .i64 (0), .int .i64 (0), .int .i64 (0), .int .i64 (0), .int .i64 (0), .int .i64 (0), .int .i64 (0), .int .i64 (0), .int .i64 (0), .int .i64 (0), .int .i64 (0), .int .i64 (0), .int .i64 (0), .int .i64 (0), .int .i64 (0), .int .i64 (0), .int .u64 (0)] 26 (0, 0)) :: M) (fun w h => h) ?_
    refine TC.region ?_
    refine TL.v (Val.indexAddrA (i := 10) rfl rfl ar80 sz3 rfl (by first | decide | omega) rfl) ?_
    refine TL.v (Val.load 1 rfl ag3 rfl rfl) ?_
    refine TL.v (Val.rem rfl rfl (by first | decide | omega) (r := a10) ha10) ?_
    refine TL.v (Val.add rfl rfl (w_i64 (by omega) (by omega))) ?_
    refine TL.v (Val.fieldAddr rfl fl26_9 sz3 rfl) ?_
    refine TL.d (Does.store (i := 0) rfl rfl rfl sz3 rfl rfl (by first | exact Nat.le_of_ble_eq_true rfl | decide | omega) rfl rfl) ?_
    rintro _ _ ⟨rfl, rfl⟩
    refine TL.nt ?_
    refine TC.en (E' := [(2, _), (3, _), (4, _)]) ?_
    refine TC.seq ?_
    refine TC.heap (M' := (b3, .cells #[.int .i64 (3 * a0 + 1 + a1), .int .i64 (a0), .int .i64 (1 + a2), .int .i64 (2 * a0 + 1 + a3), .int .i64 (1 + a4), .int .i64 (1 + a5), .int .i64 (1 + a6), .int .i64 (T0), .int .i64 (T1), .int .i64 (0), .int .i64 (0), .int .i64 (a9), .int .i64 (1 + a10), .int .i64 (100), .int .i64 (0), .int .i64 (3), .int .i64 (4), .int .i64 (100), .int .i64 (4), .int .i64 (50), .int .i64 (2), .int .i64 (100), .int .i64 (3), .int .i64 (4), .int .i64 (256), .int .u64 (1)] 26 (0, 0)) :: (b4, .cells #[.int .i64 q0, .int .i64 q1, .int .i64 q2, .int .i64 q3, .int .i64 q4, .int .i64 q5, .int .i64 q6, .int .i64 q7, .int .i64 q8, .int .i64 q9, .int .i64 q10, .int .i64 q11, .int .i64 q12, .int .i64 q13, .int .i64 q14, .int .i64 q15, .int .i64 q16, .int .i64 q17, .int .i64 q18, .int .i64 q19] 80 (0, 0)) :: (b1, .cells #[.int .i64 (0), .int .i64 (0), .int .i64 (0), .int .i64 (0), .int .i64 (0), .int .i64 (0), .int .i64 (0), .int .i64 (0), .int .i64 (0), .int .i64 (0), .int .i64 (0), .int .i64 (0), .int .i64 (0), .int .i64 (0), .int .i64 (0), .int .i64 (0), .int .i64 (0), .int .i64 (0), .int .i64 (0), .int .i64 (0), .int .i64 (0), .int .i64 (0), .int .i64 (0), .int .i64 (0), .int .i64 (0), .int .u64 (0)] 26 (0, 0)) :: M) (fun w h => h) ?_
    refine TC.region ?_
    refine TL.v (Val.fieldAddr rfl fl26_9 sz3 rfl) ?_
    refine TL.v (Val.load 0 rfl ag3 rfl rfl) ?_
    refine TL.v (Val.indexAddrA (i := 10) rfl rfl ar80 sz3 rfl (by first | decide | omega) rfl) ?_
    refine TL.v (Val.load 1 rfl ag3 rfl rfl) ?_
    refine TL.v (Val.quo rfl rfl (by decide) (r := b10) (by rw [hb10]; exact w_i64 (by omega) (by omega))) ?_
    refine TL.v (Val.rem rfl rfl (by first | decide | omega) (r := c10) hc10) ?_
    refine TL.v (Val.add rfl rfl (w_i64 (by omega) (by omega))) ?_
    refine TL.v (Val.fieldAddr rfl fl26_10 sz3 rfl) ?_
    refine TL.d (Does.store (i := 0) rfl rfl rfl sz3 rfl rfl (by first | exact Nat.le_of_ble_eq_true rfl | decide | omega) rfl rfl) ?_
    rintro _ _ ⟨rfl, rfl⟩
    refine TL.nt ?_
    refine TC.en (E' := [(2, _), (3, _), (4, _)]) ?_
    refine TC.seq ?_
    refine TC.heap (M' := (b3, .cells #[.int .i64 (3 * a0 + 1 + a1), .int .i64 (a0), .int .i64 (1 + a2), .int .i64 (2 * a0 + 1 + a3), .int .i64 (1 + a4), .int .i64 (1 + a5), .int .i64 (1 + a6), .int .i64 (T0), .int .i64 (T1), .int .i64 (0), .int .i64 (0), .int .i64 (a9), .int .i64 (1 + a10), .int .i64 (1 + a10 + c10), .int .i64 (0), .int .i64 (3), .int .i64 (4), .int .i64 (100), .int .i64 (4), .int .i64 (50), .int .i64 (2), .int .i64 (100), .int .i64 (3), .int .i64 (4), .int .i64 (256), .int .u64 (1)] 26 (0, 0)) :: (b4, .cells #[.int .i64 q0, .int .i64 q1, .int .i64 q2, .int .i64 q3, .int .i64 q4, .int .i64 q5, .int .i64 q6, .int .i64 q7, .int .i64 q8, .int .i64 q9, .int .i64 q10, .int .i64 q11, .int .i64 q12, .int .i64 q13, .int .i64 q14, .int .i64 q15, .int .i64 q16, .int .i64 q17, .int .i64 q18, .int .i64 q19] 80 (0, 0)) :: (b1, .cells #[.int .i64 (0), .int .i64 (0), .int .i64 (0), .int .i64 (0), .int .i64 (0), .int .i64 (0), .int .i64 (0), .int .i64 (0), .int .i64 (0), .int .i64 (0), .int .i64 (0), .int .i64 (0), .int .i64 (0), .int .i64 (0), .int .i64 (0), .int .i64 (0), .int .i64 (0), .int .i64 (0), .int .i64 (0), .int .i64 (0), .int .i64 (0), .int .i64 (0), .int .i64 (0), .int .i64 (0), .int .i64 (0), .int .u64 (0)] 26 (0, 0)) :: M) (fun w h => h) ?_
    refine TC.drawL ((b4, .cells #[.int .i64 q0, .int .i64 q1, .int .i64 q2, .int .i64 q3, .int .i64 q4, .int .i64 q5, .int .i64 q6, .int .i64 q7, .int .i64 q8, .int .i64 q9, .int .i64 q10, .int .i64 q11, .int .i64 q12, .int .i64 q13, .int .i64 q14, .int .i64 q15, .int .i64 q16, .int .i64 q17, .int .i64 q18, .int .i64 q19] 80 (0, 0)) :: (b1, .cells #[.int .i64 (0), .int .i64 (0), .int .i64 (0), .int .i64 (0), .int .i64 (0), .int .i64 (0), .int .i64 (0), .int .i64 (0), .int .i64 (0), .int .i64 (0), .int .i64 (0), .int .i64 (0), .int .i64 (0), .int .i64 (0), .int .i64 (0), .int .i64 (0), .int .i64 (0), .int .i64 (0), .int .i64 (0), .int .i64 (0), .int .i64 (0), .int .i64 (0), .int .i64 (0), .int .i64 (0), .int .i64 (0), .int .u64 (0)] 26 (0, 0)) :: M) mixed 10 ?_
    refine TA.tk 0 1 rfl rfl rfl (Val.indexAddrA (i := 11) rfl rfl ar80 sz3 rfl (by first | decide | omega) rfl) ?_
    refine TA.tk 1 3 rfl rfl rfl (Val.load 0 rfl ag3 rfl rfl) ?_
    refine TA.tk 2 7 rfl rfl rfl (Val.rem rfl rfl (by first | decide | omega) (r := a11) ha11) ?_
    refine TA.tk 3 15 rfl rfl rfl (Val.indexAddrA (i := 12) rfl rfl ar80 sz3 rfl (by first | decide | omega) rfl) ?_
    refine TA.tk 4 31 rfl rfl rfl (Val.load 0 rfl ag3 rfl rfl) ?_
    refine TA.tk 5 63 rfl rfl rfl (Val.rem rfl rfl (by first | decide | omega) (r := a12) ha12) ?_
    refine TA.tk 6 127 rfl rfl rfl (Val.fieldAddr rfl fl26_11 sz3 rfl) ?_
    refine TA.one 7 (by kernel_rfl) ?_
    refine TO.dz 255 none rfl rfl rfl rfl (Does.store (i := 0) rfl rfl rfl sz3 rfl rfl (by first | exact Nat.le_of_ble_eq_true rfl | decide | omega) rfl rfl) ?_
    rintro _ _ ⟨rfl, rfl⟩
    refine roK ?_
    refine TA.tk 8 511 rfl rfl rfl (Val.fieldAddr rfl fl26_12 sz3 rfl) ?_
    refine TA.one 9 (by kernel_rfl) ?_
    refine TO.dz 1023 none rfl rfl rfl rfl (Does.store (i := 0) rfl rfl rfl sz3 rfl rfl (by first | exact Nat.le_of_ble_eq_true rfl | decide | omega) rfl rfl) ?_
    rintro _ _ ⟨rfl, rfl⟩
    refine roK ?_
    refine TA.done (by kernel_rfl) ?_
    refine AtX.then ?_
    refine TC.en (E' := [(2, _), (3, _), (4, _)]) ?_
    refine TC.seq ?_
    refine TC.heap (M' := (b3, .cells #[.int .i64 (3 * a0 + 1 + a1), .int .i64 (a0), .int .i64 (1 + a2), .int .i64 (2 * a0 + 1 + a3), .int .i64 (1 + a4), .int .i64 (1 + a5), .int .i64 (1 + a6), .int .i64 (T0), .int .i64 (T1), .int .i64 (0), .int .i64 (0), .int .i64 (a9), .int .i64 (1 + a10), .int .i64 (1 + a10 + c10), .int .i64 (a11), .int .i64 (a12), .int .i64 (4), .int .i64 (100), .int .i64 (4), .int .i64 (50), .int .i64 (2), .int .i64 (100), .int .i64 (3), .int .i64 (4), .int .i64 (256), .int .u64 (1)] 26 (0, 0)) :: (b4, .cells #[.int .i64 q0, .int .i64 q1, .int .i64 q2, .int .i64 q3, .int .i64 q4, .int .i64 q5, .int .i64 q6, .int .i64 q7, .int .i64 q8, .int .i64 q9, .int .i64 q10, .int .i64 q11, .int .i64 q12, .int .i64 q13, .int .i64 q14, .int .i64 q15, .int .i64 q16, .int .i64 q17, .int .i64 q18, .int .i64 q19] 80 (0, 0)) :: (b1, .cells #[.int .i64 (0), .int .i64 (0), .int .i64 (0), .int .i64 (0), .int .i64 (0), .int .i64 (0), .int .i64 (0), .int .i64 (0), .int .i64 (0), .int .i64 (0), .int .i64 (0), .int .i64 (0), .int .i64 (0), .int .i64 (0), .int .i64 (0), .int .i64 (0), .int .i64 (0), .int .i64 (0), .int .i64 (0), .int .i64 (0), .int .i64 (0), .int .i64 (0), .int .i64 (0), .int .i64 (0), .int .i64 (0), .int .u64 (0)] 26 (0, 0)) :: M) (fun w h => h) ?_
    refine TC.drawL ((b4, .cells #[.int .i64 q0, .int .i64 q1, .int .i64 q2, .int .i64 q3, .int .i64 q4, .int .i64 q5, .int .i64 q6, .int .i64 q7, .int .i64 q8, .int .i64 q9, .int .i64 q10, .int .i64 q11, .int .i64 q12, .int .i64 q13, .int .i64 q14, .int .i64 q15, .int .i64 q16, .int .i64 q17, .int .i64 q18, .int .i64 q19] 80 (0, 0)) :: (b1, .cells #[.int .i64 (0), .int .i64 (0), .int .i64 (0), .int .i64 (0), .int .i64 (0), .int .i64 (0), .int .i64 (0), .int .i64 (0), .int .i64 (0), .int .i64 (0), .int .i64 (0), .int .i64 (0), .int .i64 (0), .int .i64 (0), .int .i64 (0), .int .i64 (0), .int .i64 (0), .int .i64 (0), .int .i64 (0), .int .i64 (0), .int .i64 (0), .int .i64 (0), .int .i64 (0), .int .i64 (0), .int .i64 (0), .int .u64 (0)] 26 (0, 0)) :: M) mixed 13 ?_
    refine TA.tk 0 1 rfl rfl rfl (Val.indexAddrA (i := 13) rfl rfl ar80 sz3 rfl (by first | decide | omega) rfl) ?_
    refine TA.tk 1 3 rfl rfl rfl (Val.load 0 rfl ag3 rfl rfl) ?_
    refine TA.tk 2 7 rfl rfl rfl (Val.rem rfl rfl (by first | decide | omega) (r := a13) ha13) ?_
    refine TA.tk 3 15 rfl rfl rfl (Val.add rfl rfl (w_i64 (by omega) (by omega))) ?_
    refine TA.tk 4 31 rfl rfl rfl (Val.indexAddrA (i := 13) rfl rfl ar80 sz3 rfl (by first | decide | omega) rfl) ?_
    refine TA.tk 5 63 rfl rfl rfl (Val.load 0 rfl ag3 rfl rfl) ?_
    refine TA.tk 6 127 rfl rfl rfl (Val.quo rfl rfl (by decide) (r := b13) (by rw [hb13]; exact w_i64 (by omega) (by omega))) ?_
    refine TA.tk 7 255 rfl rfl rfl (Val.rem rfl rfl (by first | decide | omega) (r := c13) hc13) ?_
    refine TA.tk 8 511 rfl rfl rfl (Val.add rfl rfl (w_i64 (by omega) (by omega))) ?_
    refine TA.tk 9 1023 rfl rfl rfl (Val.fieldAddr rfl fl26_13 sz3 rfl) ?_
    refine TA.one 10 (by kernel_rfl) ?_
    refine TO.dz 2047 none rfl rfl rfl rfl (Does.store (i := 0) rfl rfl rfl sz3 rfl rfl (by first | exact Nat.le_of_ble_eq_true rfl | decide | omega) rfl rfl) ?_
    rintro _ _ ⟨rfl, rfl⟩
    refine roK ?_
    refine TA.tk 11 4095 rfl rfl rfl (Val.fieldAddr rfl fl26_14 sz3 rfl) ?_
    refine TA.one 12 (by kernel_rfl) ?_
    refine TO.dz 8191 none rfl rfl rfl rfl (Does.store (i := 0) rfl rfl rfl sz3 rfl rfl (by first | exact Nat.le_of_ble_eq_true rfl | decide | omega) rfl rfl) ?_
    rintro _ _ ⟨rfl, rfl⟩
    refine roK ?_
    refine TA.done (by kernel_rfl) ?_
    refine AtX.then ?_
    refine TC.en (E' := [(2, _), (3, _), (4, _)]) ?_
    refine TC.seq ?_
    refine TC.heap (M' := (b3, .cells #[.int .i64 (3 * a0 + 1 + a1), .int .i64 (a0), .int .i64 (1 + a2), .int .i64 (2 * a0 + 1 + a3), .int .i64 (1 + a4), .int .i64 (1 + a5), .int .i64 (1 + a6), .int .i64 (T0), .int .i64 (T1), .int .i64 (0), .int .i64 (0), .int .i64 (a9), .int .i64 (1 + a10), .int .i64 (1 + a10 + c10), .int .i64 (a11), .int .i64 (a12), .int .i64 (1 + a13), .int .i64 (1 + c13), .int .i64 (4), .int .i64 (50), .int .i64 (2), .int .i64 (100), .int .i64 (3), .int .i64 (4), .int .i64 (256), .int .u64 (1)] 26 (0, 0)) :: (b4, .cells #[.int .i64 q0, .int .i64 q1, .int .i64 q2, .int .i64 q3, .int .i64 q4, .int .i64 q5, .int .i64 q6, .int .i64 q7, .int .i64 q8, .int .i64 q9, .int .i64 q10, .int .i64 q11, .int .i64 q12, .int .i64 q13, .int .i64 q14, .int .i64 q15, .int .i64 q16, .int .i64 q17, .int .i64 q18, .int .i64 q19] 80 (0, 0)) :: (b1, .cells #[.int .i64 (0), .int .i64 (0), .int .i64 (0), .int .i64 (0), .int .i64 (0), .int .i64 (0), .int .i64 (0), .int .i64 (0), .int .i64 (0), .int .i64 (0), .int .i64 (0), .int .i64 (0), .int .i64 (0), .int .i64 (0), .int .i64 (0), .int .i64 (0), .int .i64 (0), .int .i64 (0), .int .i64 (0), .int .i64 (0), .int .i64 (0), .int .i64 (0), .int .i64 (0), .int .i64 (0), .int .i64 (0), .int .u64 (0)] 26 (0, 0)) :: M) (fun w h => h) ?_
    refine TC.drawL ((b4, .cells #[.int .i64 q0, .int .i64 q1, .int .i64 q2, .int .i64 q3, .int .i64 q4, .int .i64 q5, .int .i64 q6, .int .i64 q7, .int .i64 q8, .int .i64 q9, .int .i64 q10, .int .i64 q11, .int .i64 q12, .int .i64 q13, .int .i64 q14, .int .i64 q15, .int .i64 q16, .int .i64 q17, .int .i64 q18, .int .i64 q19] 80 (0, 0)) :: (b1, .cells #[.int .i64 (0), .int .i64 (0), .int .i64 (0), .int .i64 (0), .int .i64 (0), .int .i64 (0), .int .i64 (0), .int .i64 (0), .int .i64 (0), .int .i64 (0), .int .i64 (0), .int .i64 (0), .int .i64 (0), .int .i64 (0), .int .i64 (0), .int .i64 (0), .int .i64 (0), .int .i64 (0), .int .i64 (0), .int .i64 (0), .int .i64 (0), .int .i64 (0), .int .i64 (0), .int .i64 (0), .int .i64 (0), .int .u64 (0)] 26 (0, 0)) :: M) mixed 13 ?_
    refine TA.tk 0 1 rfl rfl rfl (Val.indexAddrA (i := 14) rfl rfl ar80 sz3 rfl (by first | decide | omega) rfl) ?_
    refine TA.tk 1 3 rfl rfl rfl (Val.load 0 rfl ag3 rfl rfl) ?_
    refine TA.tk 2 7 rfl rfl rfl (Val.rem rfl rfl (by first | decide | omega) (r := a14) ha14) ?_
    refine TA.tk 3 15 rfl rfl rfl (Val.add rfl rfl (w_i64 (by omega) (by omega))) ?_
    refine TA.tk 4 31 rfl rfl rfl (Val.indexAddrA (i := 14) rfl rfl ar80 sz3 rfl (by first | decide | omega) rfl) ?_
    refine TA.tk 5 63 rfl rfl rfl (Val.load 0 rfl ag3 rfl rfl) ?_
    refine TA.tk 6 127 rfl rfl rfl (Val.quo rfl rfl (by decide) (r := b14) (by rw [hb14]; exact w_i64 (by omega) (by omega))) ?_
    refine TA.tk 7 255 rfl rfl rfl (Val.rem rfl rfl (by first | decide | omega) (r := c14) hc14) ?_
    refine TA.tk 8 511 rfl rfl rfl (Val.add rfl rfl (w_i64 (by omega) (by omega))) ?_
    refine TA.tk 9 1023 rfl rfl rfl (Val.fieldAddr rfl fl26_15 sz3 rfl) ?_
    refine TA.one 10 (by kernel_rfl) ?_
    refine TO.dz 2047 none rfl rfl rfl rfl (Does.store (i := 0) rfl rfl rfl sz3 rfl rfl (by first | exact Nat.le_of_ble_eq_true rfl | decide | omega) rfl rfl) ?_
    rintro _ _ ⟨rfl, rfl⟩
    refine roK ?_
    refine TA.tk 11 4095 rfl rfl rfl (Val.fieldAddr rfl fl26_16 sz3 rfl) ?_
    refine TA.one 12 (by kernel_rfl) ?_
    refine TO.dz 8191 none rfl rfl rfl rfl (Does.store (i := 0) rfl rfl rfl sz3 rfl rfl (by first | exact Nat.le_of_ble_eq_true rfl | decide | omega) rfl rfl) ?_
    rintro _ _ ⟨rfl, rfl⟩
    refine roK ?_
    refine TA.done (by kernel_rfl) ?_
    refine AtX.then ?_
    refine TC.en (E' := [(2, _), (3, _), (4, _)]) ?_
    refine TC.seq ?_
    refine TC.heap (M' := (b3, .cells #[.int .i64 (3 * a0 + 1 + a1), .int .i64 (a0), .int .i64 (1 + a2), .int .i64 (2 * a0 + 1 + a3), .int .i64 (1 + a4), .int .i64 (1 + a5), .int .i64 (1 + a6), .int .i64 (T0), .int .i64 (T1), .int .i64 (0), .int .i64 (0), .int .i64 (a9), .int .i64 (1 + a10), .int .i64 (1 + a10 + c10), .int .i64 (a11), .int .i64 (a12), .int .i64 (1 + a13), .int .i64 (1 + c13), .int .i64 (1 + a14), .int .i64 (1 + c14), .int .i64 (2), .int .i64 (100), .int .i64 (3), .int .i64 (4), .int .i64 (256), .int .u64 (1)] 26 (0, 0)) :: (b4, .cells #[.int .i64 q0, .int .i64 q1, .int .i64 q2, .int .i64 q3, .int .i64 q4, .int .i64 q5, .int .i64 q6, .int .i64 q7, .int .i64 q8, .int .i64 q9, .int .i64 q10, .int .i64 q11, .int .i64 q12, .int .i64 q13, .int .i64 q14, .int .i64 q15, .int .i64 q16, .int .i64 q17, .int .i64 q18, .int .i64 q19] 80 (0, 0)) :: (b1, .cells #[.int .i64 (0), .int .i64 (0), .int .i64 (0), .int .i64 (0), .int .i64 (0), .int .i64 (0), .int .i64 (0), .int .i64 (0), .int .i64 (0), .int .i64 (0), .int .i64 (0), .int .i64 (0), .int .i64 (0), .int .i64 (0), .int .i64 (0), .int .i64 (0), .int .i64 (0), .int .i64 (0), .int .i64 (0), .int .i64 (0), .int .i64 (0), .int .i64 (0), .int .i64 (0), .int .i64 (0), .int .i64 (0), .int .u64 (0)] 26 (0, 0)) :: M) (fun w h => h) ?_
    refine TC.region ?_
    refine TL.v (Val.indexAddrA (i := 15) rfl rfl ar80 sz3 rfl (by first | decide | omega) rfl) ?_
    refine TL.v (Val.load 1 rfl ag3 rfl rfl) ?_
    refine TL.v (Val.rem rfl rfl (by first | decide | omega) (r := a15) ha15) ?_
    refine TL.v (Val.add rfl rfl (w_i64 (by omega) (by omega))) ?_
    refine TL.v (Val.fieldAddr rfl fl26_17 sz3 rfl) ?_
    refine TL.d (Does.store (i := 0) rfl rfl rfl sz3 rfl rfl (by first | exact Nat.le_of_ble_eq_true rfl | decide | omega) rfl rfl) ?_
    rintro _ _ ⟨rfl, rfl⟩
    refine TL.nt ?_
    refine TC.en (E' := [(2, _), (3, _), (4, _)]) ?_
    refine TC.seq ?_
    refine TC.heap (M' := (b3, .cells #[.int .i64 (3 * a0 + 1 + a1), .int .i64 (a0), .int .i64 (1 + a2), .int .i64 (2 * a0 + 1 + a3), .int .i64 (1 + a4), .int .i64 (1 + a5), .int .i64 (1 + a6), .int .i64 (T0), .int .i64 (T1), .int .i64 (0), .int .i64 (0), .int .i64 (a9), .int .i64 (1 + a10), .int .i64 (1 + a10 + c10), .int .i64 (a11), .int .i64 (a12), .int .i64 (1 + a13), .int .i64 (1 + c13), .int .i64 (1 + a14), .int .i64 (1 + c14), .int .i64 (1 + a15), .int .i64 (100), .int .i64 (3), .int .i64 (4), .int .i64 (256), .int .u64 (1)] 26 (0, 0)) :: (b4, .cells #[.int .i64 q0, .int .i64 q1, .int .i64 q2, .int .i64 q3, .int .i64 q4, .int .i64 q5, .int .i64 q6, .int .i64 q7, .int .i64 q8, .int .i64 q9, .int .i64 q10, .int .i64 q11, .int .i64 q12, .int .i64 q13, .int .i64 q14, .int .i64 q15, .int .i64 q16, .int .i64 q17, .int .i64 q18, .int .i64 q19] 80 (0, 0)) :: (b1, .cells #[.int .i64 (0), .int .i64 (0), .int .i64 (0), .int .i64 (0), .int .i64 (0), .int .i64 (0), .int .i64 (0), .int .i64 (0), .int .i64 (0), .int .i64 (0), .int .i64 (0), .int .i64 (0), .int .i64 (0), .int .i64 (0), .int .i64 (0), .int .i64 (0), .int .i64 (0), .int .i64 (0), .int .i64 (0), .int .i64 (0), .int .i64 (0), .int .i64 (0), .int .i64 (0), .int .i64 (0), .int .i64 (0), .int .u64 (0)] 26 (0, 0)) :: M) (fun w h => h) ?_
    refine TC.region ?_
    refine TL.v (Val.indexAddrA (i := 16) rfl rfl ar80 sz3 rfl (by first | decide | omega) rfl) ?_
    refine TL.v (Val.load 1 rfl ag3 rfl rfl) ?_
    refine TL.v (Val.rem rfl rfl (by first | decide | omega) (r := a16) ha16) ?_
    refine TL.v (Val.fieldAddr rfl fl26_18 sz2 rfl) ?_
    refine TL.d (Does.store (i := 0) rfl rfl rfl sz2 rfl rfl (by first | exact Nat.le_of_ble_eq_true rfl | decide | omega) rfl rfl) ?_
    rintro _ _ ⟨rfl, rfl⟩
    refine TL.nt ?_
    refine TC.en (E' := [(2, _), (3, _), (4, _)]) ?_
    refine TC.seq ?_
    refine TC.heap (M' := (b3, .cells #[.int .i64 (3 * a0 + 1 + a1), .int .i64 (a0), .int .i64 (1 + a2), .int .i64 (2 * a0 + 1 + a3), .int .i64 (1 + a4), .int .i64 (1 + a5), .int .i64 (1 + a6), .int .i64 (T0), .int .i64 (T1), .int .i64 (0), .int .i64 (0), .int .i64 (a9), .int .i64 (1 + a10), .int .i64 (1 + a10 + c10), .int .i64 (a11), .int .i64 (a12), .int .i64 (1 + a13), .int .i64 (1 + c13), .int .i64 (1 + a14), .int .i64 (1 + c14), .int .i64 (1 + a15), .int .i64 (a16), .int .i64 (3), .int .i64 (4), .int .i64 (256), .int .u64 (1)] 26 (0, 0)) :: (b4, .cells #[.int .i64 q0, .int .i64 q1, .int .i64 q2, .int .i64 q3, .int .i64 q4, .int .i64 q5, .int .i64 q6, .int .i64 q7, .int .i64 q8, .int .i64 q9, .int .i64 q10, .int .i64 q11, .int .i64 q12, .int .i64 q13, .int .i64 q14, .int .i64 q15, .int .i64 q16, .int .i64 q17, .int .i64 q18, .int .i64 q19] 80 (0, 0)) :: (b1, .cells #[.int .i64 (0), .int .i64 (0), .int .i64 (0), .int .i64 (0), .int .i64 (0), .int .i64 (0), .int .i64 (0), .int .i64 (0), .int .i64 (0), .int .i64 (0), .int .i64 (0), .int .i64 (0), .int .i64 (0), .int .i64 (0), .int .i64 (0), .int .i64 (0), .int .i64 (0), .int .i64 (0), .int .i64 (0), .int .i64 (0), .int .i64 (0), .int .i64 (0), .int .i64 (0), .int .i64 (0), .int .i64 (0), .int .u64 (0)] 26 (0, 0)) :: M) (fun w h => h) ?_
    refine TC.drawL ((b4, .cells #[.int .i64 q0, .int .i64 q1, .int .i64 q2, .int .i64 q3, .int .i64 q4, .int .i64 q5, .int .i64 q6, .int .i64 q7, .int .i64 q8, .int .i64 q9, .int .i64 q10, .int .i64 q11, .int .i64 q12, .int .i64 q13, .int .i64 q14, .int .i64 q15, .int .i64 q16, .int .i64 q17, .int .i64 q18, .int .i64 q19] 80 (0, 0)) :: (b1, .cells #[.int .i64 (0), .int .i64 (0), .int .i64 (0), .int .i64 (0), .int .i64 (0), .int .i64 (0), .int .i64 (0), .int .i64 (0), .int .i64 (0), .int .i64 (0), .int .i64 (0), .int .i64 (0), .int .i64 (0), .int .i64 (0), .int .i64 (0), .int .i64 (0), .int .i64 (0), .int .i64 (0), .int .i64 (0), .int .i64 (0), .int .i64 (0), .int .i64 (0), .int .i64 (0), .int .i64 (0), .int .i64 (0), .int .u64 (0)] 26 (0, 0)) :: M) mixed 13 ?_
    refine TA.tk 0 1 rfl rfl rfl (Val.indexAddrA (i := 17) rfl rfl ar80 sz3 rfl (by first | decide | omega) rfl) ?_
    refine TA.tk 1 3 rfl rfl rfl (Val.load 0 rfl ag3 rfl rfl) ?_
    refine TA.tk 2 7 rfl rfl rfl (Val.rem rfl rfl (by first | decide | omega) (r := a17) ha17) ?_
    refine TA.tk 3 15 rfl rfl rfl (Val.add rfl rfl (w_i64 (by omega) (by omega))) ?_
    refine TA.tk 4 31 rfl rfl rfl (Val.indexAddrA (i := 17) rfl rfl ar80 sz3 rfl (by first | decide | omega) rfl) ?_
    refine TA.tk 5 63 rfl rfl rfl (Val.load 0 rfl ag3 rfl rfl) ?_
    refine TA.tk 6 127 rfl rfl rfl (Val.quo rfl rfl (by decide) (r := b17) (by rw [hb17]; exact w_i64 (by omega) (by omega))) ?_
    refine TA.tk 7 255 rfl rfl rfl (Val.rem rfl rfl (by first | decide | omega) (r := c17) hc17) ?_
    refine TA.tk 8 511 rfl rfl rfl (Val.add rfl rfl (w_i64 (by omega) (by omega))) ?_
    refine TA.tk 9 1023 rfl rfl rfl (Val.fieldAddr rfl fl26_19 sz3 rfl) ?_
    refine TA.one 10 (by kernel_rfl) ?_
    refine TO.dz 2047 none rfl rfl rfl rfl (Does.store (i := 0) rfl rfl rfl sz3 rfl rfl (by first | exact Nat.le_of_ble_eq_true rfl | decide | omega) rfl rfl) ?_
    rintro _ _ ⟨rfl, rfl⟩
    refine roK ?_
    refine TA.tk 11 4095 rfl rfl rfl (Val.fieldAddr rfl fl26_20 sz3 rfl) ?_
    refine TA.one 12 (by kernel_rfl) ?_
    refine TO.dz 8191 none rfl rfl rfl rfl (Does.store (i := 0) rfl rfl rfl sz3 rfl rfl (by first | exact Nat.le_of_ble_eq_true rfl | decide | omega) rfl rfl) ?_
    rintro _ _ ⟨rfl, rfl⟩
    refine roK ?_
    refine TA.done (by kernel_rfl) ?_
    refine AtX.then ?_
    refine TC.en (E' := [(2, _), (3, _), (4, _)]) ?_
    refine TC.seq ?_
    refine TC.heap (M' := (b3, .cells #[.int .i64 (3 * a0 + 1 + a1), .int .i64 (a0), .int .i64 (1 + a2), .int .i64 (2 * a0 + 1 + a3), .int .i64 (1 + a4), .int .i64 (1 + a5), .int .i64 (1 + a6), .int .i64 (T0), .int .i64 (T1), .int .i64 (0), .int .i64 (0), .int .i64 (a9), .int .i64 (1 + a10), .int .i64 (1 + a10 + c10), .int .i64 (a11), .int .i64 (a12), .int .i64 (1 + a13), .int .i64 (1 + c13), .int .i64 (1 + a14), .int .i64 (1 + c14), .int .i64 (1 + a15), .int .i64 (a16), .int .i64 (1 + a17), .int .i64 (1 + c17), .int .i64 (256), .int .u64 (1)] 26 (0, 0)) :: (b4, .cells #[.int .i64 q0, .int .i64 q1, .int .i64 q2, .int .i64 q3, .int .i64 q4, .int .i64 q5, .int .i64 q6, .int .i64 q7, .int .i64 q8, .int .i64 q9, .int .i64 q10, .int .i64 q11, .int .i64 q12, .int .i64 q13, .int .i64 q14, .int .i64 q15, .int .i64 q16, .int .i64 q17, .int .i64 q18, .int .i64 q19] 80 (0, 0)) :: (b1, .cells #[.int .i64 (0), .int .i64 (0), .int .i64 (0), .int .i64 (0), .int .i64 (0), .int .i64 (0), .int .i64 (0), .int .i64 (0), .int .i64 (0), .int .i64 (0), .int .i64 (0), .int .i64 (0), .int .i64 (0), .int .i64 (0), .int .i64 (0), .int .i64 (0), .int .i64 (0), .int .i64 (0), .int .i64 (0), .int .i64 (0), .int .i64 (0), .int .i64 (0), .int .i64 (0), .int .i64 (0), .int .i64 (0), .int .u64 (0)] 26 (0, 0)) :: M) (fun w h => h) ?_
    refine TC.region ?_
    refine TL.v (Val.indexAddrA (i := 18) rfl rfl ar80 sz3 rfl (by first | decide | omega) rfl) ?_
    refine TL.v (Val.load 1 rfl ag3 rfl rfl) ?_
    refine TL.v (Val.rem rfl rfl (by first | decide | omega) (r := a18) ha18) ?_
    refine TL.v (Val.add rfl rfl (w_i64 (by omega) (by omega))) ?_
    refine TL.v (Val.fieldAddr rfl fl26_21 sz3 rfl) ?_
    refine TL.d (Does.store (i := 0) rfl rfl rfl sz3 rfl rfl (by first | exact Nat.le_of_ble_eq_true rfl | decide | omega) rfl rfl) ?_
    rintro _ _ ⟨rfl, rfl⟩
    refine TL.nt ?_
    refine TC.en (E' := [(2, _), (3, _), (4, _)]) ?_
    refine TC.seq ?_
    refine TC.heap (M' := (b3, .cells #[.int .i64 (3 * a0 + 1 + a1), .int .i64 (a0), .int .i64 (1 + a2), .int .i64 (2 * a0 + 1 + a3), .int .i64 (1 + a4), .int .i64 (1 + a5), .int .i64 (1 + a6), .int .i64 (T0), .int .i64 (T1), .int .i64 (0), .int .i64 (0), .int .i64 (a9), .int .i64 (1 + a10), .int .i64 (1 + a10 + c10), .int .i64 (a11), .int .i64 (a12), .int .i64 (1 + a13), .int .i64 (1 + c13), .int .i64 (1 + a14), .int .i64 (1 + c14), .int .i64 (1 + a15), .int .i64 (a16), .int .i64 (1 + a17), .int .i64 (1 + c17), .int .i64 (64 + a18), .int .u64 (1)] 26 (0, 0)) :: (b4, .cells #[.int .i64 q0, .int .i64 q1, .int .i64 q2, .int .i64 q3, .int .i64 q4, .int .i64 q5, .int .i64 q6, .int .i64 q7, .int .i64 q8, .int .i64 q9, .int .i64 q10, .int .i64 q11, .int .i64 q12, .int .i64 q13, .int .i64 q14, .int .i64 q15, .int .i64 q16, .int .i64 q17, .int .i64 q18, .int .i64 q19] 80 (0, 0)) :: (b1, .cells #[.int .i64 (0), .int .i64 (0), .int .i64 (0), .int .i64 (0), .int .i64 (0), .int .i64 (0), .int .i64 (0), .int .i64 (0), .int .i64 (0), .int .i64 (0), .int .i64 (0), .int .i64 (0), .int .i64 (0), .int .i64 (0), .int .i64 (0), .int .i64 (0), .int .i64 (0), .int .i64 (0), .int .i64 (0), .int .i64 (0), .int .i64 (0), .int .i64 (0), .int .i64 (0), .int .i64 (0), .int .i64 (0), .int .u64 (0)] 26 (0, 0)) :: M) (fun w h => h) ?_
    refine TC.region ?_
    refine TL.v (Val.indexAddrA (i := 19) rfl rfl ar80 sz3 rfl (by first | decide | omega) rfl) ?_
    refine TL.v (Val.load 1 rfl ag3 rfl rfl) ?_
    refine TL.v (Val.convI rfl iu3 in24 (w_u64 (by omega) (by omega))) ?_
    refine TL.v (Val.fieldAddr rfl fl26_22 sz24 rfl) ?_
    refine TL.d (Does.store (i := 0) rfl rfl rfl sz24 rfl rfl (by first | exact Nat.le_of_ble_eq_true rfl | decide | omega) rfl rfl) ?_
    rintro _ _ ⟨rfl, rfl⟩
    refine TL.nt ?_
    refine TC.en (E' := [(2, _), (3, _)]) ?_
    refine TC.seq ?_
    refine TC.heap (M' := (b3, .cells #[.int .i64 (3 * a0 + 1 + a1), .int .i64 (a0), .int .i64 (1 + a2), .int .i64 (2 * a0 + 1 + a3), .int .i64 (1 + a4), .int .i64 (1 + a5), .int .i64 (1 + a6), .int .i64 (T0), .int .i64 (T1), .int .i64 (0), .int .i64 (0), .int .i64 (a9), .int .i64 (1 + a10), .int .i64 (1 + a10 + c10), .int .i64 (a11), .int .i64 (a12), .int .i64 (1 + a13), .int .i64 (1 + c13), .int .i64 (1 + a14), .int .i64 (1 + c14), .int .i64 (1 + a15), .int .i64 (a16), .int .i64 (1 + a17), .int .i64 (1 + c17), .int .i64 (64 + a18), .int .u64 (q19)] 26 (0, 0)) :: (b4, .cells #[.int .i64 q0, .int .i64 q1, .int .i64 q2, .int .i64 q3, .int .i64 q4, .int .i64 q5, .int .i64 q6, .int .i64 q7, .int .i64 q8, .int .i64 q9, .int .i64 q10, .int .i64 q11, .int .i64 q12, .int .i64 q13, .int .i64 q14, .int .i64 q15, .int .i64 q16, .int .i64 q17, .int .i64 q18, .int .i64 q19] 80 (0, 0)) :: (b1, .cells #[.int .i64 (0), .int .i64 (0), .int .i64 (0), .int .i64 (0), .int .i64 (0), .int .i64 (0), .int .i64 (0), .int .i64 (0), .int .i64 (0), .int .i64 (0), .int .i64 (0), .int .i64 (0), .int .i64 (0), .int .i64 (0), .int .i64 (0), .int .i64 (0), .int .i64 (0), .int .i64 (0), .int .i64 (0), .int .i64 (0), .int .i64 (0), .int .i64 (0), .int .i64 (0), .int .i64 (0), .int .i64 (0), .int .u64 (0)] 26 (0, 0)) :: M) (fun w h => h) ?_
    refine TC.region ?_
    refine TL.v (Val.loadAgg (vs := [.int .i64 (3 * a0 + 1 + a1), .int .i64 (a0), .int .i64 (1 + a2), .int .i64 (2 * a0 + 1 + a3), .int .i64 (1 + a4), .int .i64 (1 + a5), .int .i64 (1 + a6), .int .i64 (T0), .int .i64 (T1), .int .i64 (0), .int .i64 (0), .int .i64 (a9), .int .i64 (1 + a10), .int .i64 (1 + a10 + c10), .int .i64 (a11), .int .i64 (a12), .int .i64 (1 + a13), .int .i64 (1 + c13), .int .i64 (1 + a14), .int .i64 (1 + c14), .int .i64 (1 + a15), .int .i64 (a16), .int .i64 (1 + a17), .int .i64 (1 + c17), .int .i64 (64 + a18), .int .u64 (q19)]) 0 rfl ag26 sz26 rfl rfl rfl) ?_
    refine TL.d (Does.storeR (ys' := [.int .i64 (3 * a0 + 1 + a1), .int .i64 (a0), .int .i64 (1 + a2), .int .i64 (2 * a0 + 1 + a3), .int .i64 (1 + a4), .int .i64 (1 + a5), .int .i64 (1 + a6), .int .i64 (T0), .int .i64 (T1), .int .i64 (0), .int .i64 (0), .int .i64 (a9), .int .i64 (1 + a10), .int .i64 (1 + a10 + c10), .int .i64 (a11), .int .i64 (a12), .int .i64 (1 + a13), .int .i64 (1 + c13), .int .i64 (1 + a14), .int .i64 (1 + c14), .int .i64 (1 + a15), .int .i64 (a16), .int .i64 (1 + a17), .int .i64 (1 + c17), .int .i64 (64 + a18), .int .u64 (q19)]) 2 rfl rfl rfl sz26 rfl rfl (by exact Nat.le_of_ble_eq_true rfl) rfl) ?_
    rintro _ _ ⟨rfl, rfl⟩
    refine TL.nt ?_
    refine TC.en (E' := [(2, _)]) ?_
    refine TC.ret1 (fn := Tryz.f5) (fun _ _ h => h) rfl (RV.agg (i := 2) rfl ag26 sz26 rfl rfl rfl) (M' := M) (by repeat (first | exact ro_refl | exact ro_pre | refine ro_tail ?_ | refine ro_app ?_)) ?_
    refine ⟨⟨3 * a0 + 1 + a1, a0, 1 + a2, 2 * a0 + 1 + a3, 1 + a4, 1 + a5, 1 + a6, T0, T1, 0, 0, a9, 1 + a10, 1 + a10 + c10, a11, a12, 1 + a13, 1 + c13, 1 + a14, 1 + c14, 1 + a15, a16, 1 + a17, 1 + c17, 64 + a18, q19⟩, rfl, ?_, rfl⟩
    exact fit_fin ga0 la0 ga1 la1 ga2 la2 ga3 la3 ga4 la4 ga5 la5 ga6 la6 ga9 la9 ga10 la10 ga11 la11 ga12 la12 ga13 la13 ga14 la14 ga15 la15 ga16 la16 ga17 la17 ga18 la18 gc10 lc10 gc13 lc13 gc14 lc14 gc17 lc17 hT0b hT1b hq19

end Go.Proofs.YtphoapajlcaoeaaGreat
/- walks -/
set_option linter.unusedVariables false
set_option linter.unusedSimpArgs false
set_option maxRecDepth 100000
set_option maxHeartbeats 4000000
namespace Go.Proofs.YtphoapajlcaoeaaGreat
open Go Go.X
/-- bytes.Equal -/
theorem Equal_fn (l m : List UInt8) (A B : Option Addr) (n n2 c c2 : Nat) (M : Hp) (hA : RdS M A (bv l)) (hB : RdS M B (bv m)) (hn : n = l.length) (hn2 : n2 = m.length) : FnC Tryz.prog 95 #[.slice A n c, .slice B n2 c2] M (fun v M' => ∃ g, g = decide (l = m) ∧ v = .bool g ∧ M = M') := by
 refine FnC.intro Tryz.func95 rfl 10 rfl (by simp) (fun z => ?_)
 refine TC.en (E' := [(0, _), (1, _)]) ?_
 refine TC.sr ?_
 refine TL.v (Val.assign rfl) ?_
 refine TL.nt ?_
 refine TC.sr ?_
 refine TL.v (Val.move rfl) ?_
 refine TL.v (Val.b2s rfl us34 ui5 un9 hn hA) ?_
 refine TL.v (Val.move rfl) ?_
 refine TL.v (Val.b2s rfl us34 ui5 un9 hn2 hB) ?_
 refine TL.v (Val.eqlL rfl rfl) ?_
 refine TL.v (Val.assign rfl) ?_
 refine TL.nt ?_
 refine TC.en (E' := [(4, _)]) ?_
 refine TC.ret1 (fn := Tryz.f95) (fun _ _ h => h) rfl (RV.tmp rfl) (fun _ h => h) ?_
 exact ⟨_, rfl, rfl, rfl⟩

/-- bytes.Clone -/
theorem Clone_fn (l : List UInt8) (p : Addr) (n c : Nat) (M : Hp) (hA : RdS M (some p) (bv l)) (hn : n = l.length) (hl : l.length ≤ 100000) : FnC Tryz.prog 70 #[.slice (some p) n c] M (fun v M' => ∃ σ, v = .slice (slA σ) l.length (slC σ) ∧ slOk σ 1 l.length (bv l) ∧ M' = slH σ 5 (bv l) ++ M) := by
 subst hn
 refine FnC.intro Tryz.func70 rfl 8 rfl (by simp) (fun z => ?_)
 refine TC.en (E' := [(0, _)]) ?_
 refine TC.sr ?_
 refine TL.v (Val.assign rfl) ?_
 refine TL.nt ?_
 refine TC.seq ?_
 refine TC.sr ?_
 refine TL.v (Val.move rfl) ?_
 refine TL.v (Val.eqlNilS rfl rfl sl34) ?_
 refine TL.nt ?_
 refine TC.en (E' := [(0, _), (2, _), (4, _)]) ?_
 refine TC.cond rfl (fun c1 => ?_) (fun c1 => ?_)
 ·
  (exfalso; simp at c1)
 ·
  refine TC.en (E' := [(0, _), (2, _)]) ?_
  refine TC.skip ?_
  refine AtX.then ?_
  refine TC.en (E' := [(0, _), (2, _)]) ?_
  refine TC.sr ?_
  refine TL.d (Does.buildSlice0 sl34 sz5) ?_
  rintro _ _ ⟨b1, rfl, rfl⟩
  refine TL.v (Val.move rfl) ?_
  refine TL.d (Does.appendS (xs := []) (ys := bv l) (n := 0) (some (b1, 0, [])) M ro_refl rfl rfl sl34 sz5 by5 ze5 rfl ⟨rfl, rfl⟩ (srcB us34 ((hA.cons _))) (by simp) (bv_one _) (by omega) (by omega)) ?_
  rintro _ _ ⟨σ, rfl, hok, rfl⟩
  refine TL.v (Val.assign rfl) ?_
  refine TL.nt ?_
  refine TC.en (E' := [(2, _)]) ?_
  refine TC.ret1 (fn := Tryz.f70) (fun _ _ h => h) rfl (RV.tmp rfl) (fun _ h => h) ?_
  exact ⟨σ, by simp, by simpa using hok, by simp⟩

/-- quorumite/wire.Get$1 -/
theorem clo105_fn (l : List UInt8) (A : Option Addr) (n c : Nat) (o p i : Nat) (M : Hp) (h1 : M[i]? = some (p, .cells #[.slice A n c] 34 (0, 0))) (hA : RdS M A (bv l)) (hn : n = l.length) (hl : l.length ≤ 1000) (ho : o + 8 ≤ l.length) : FnC Tryz.prog 93 #[.int .i64 (o : Nat), .pointer (some ⟨p, 0, none⟩)] M (fun v M' => v = .int .i64 (IntKind.i64.wrap ((get8 l o : Nat) : Int)) ∧ M = M') := by
 refine FnC.intro Tryz.func93 rfl 14 rfl (by simp) (fun z => ?_)
 refine TC.en (E' := [(0, _), (1, _)]) ?_
 refine TC.sr ?_
 refine TL.v (Val.assign rfl) ?_
 refine TL.nt ?_
 refine TC.sr ?_
 refine TL.v (Val.load i rfl ag34 h1 rfl) ?_
 refine TL.v (Val.move rfl) ?_
 refine TL.d (Does.callF go94 rfl (sipGet_fn l _ _ _ o _ hA hn hl ho)) ?_
 rintro _ _ ⟨rfl, rfl⟩
 refine TL.v (Val.move rfl) ?_
 refine TL.v (Val.extract rfl rfl) ?_
 refine TL.v (Val.extract rfl rfl) ?_
 refine TL.v (Val.assign rfl) ?_
 refine TL.v (Val.assign rfl) ?_
 refine TL.nt ?_
 refine TC.en (E' := [(3, _), (4, _)]) ?_
 refine TC.sr ?_
 refine TL.v (Val.move rfl) ?_
 refine TL.v (Val.convI rfl iu24 in2 rfl) ?_
 refine TL.v (Val.assign rfl) ?_
 refine TL.nt ?_
 refine TC.en (E' := [(3, _)]) ?_
 refine TC.ret1 (fn := Tryz.f93) (fun _ _ h => h) rfl (RV.tmp rfl) (fun _ h => h) ?_
 exact ⟨rfl, rfl⟩

/-- quorumite/wire.Get -/
theorem wGet_fn (m : Ms) (A : Option Addr) (n c : Nat) (M : Hp) (hA : RdS M A (bv (putM m))) (hn : n = 32) (hm : mayM m = true) : FnC Tryz.prog 68 #[.slice A n c] M (fun v M' => v = .tuple #[.agg #[.int .i64 m.kind, .int .i64 m.who, .int .i64 m.gen, .int .i64 m.seq, .int .i64 m.epoch, .int .i64 m.value, .int .i64 m.metric], .int .i64 0] ∧ M = M') := by
 subst hn
 obtain ⟨bA, oA, rfl, hR⟩ := RdS.get hA (by simp)
 have hb := mayM_iff.1 hm
 have hvb := val_bd hm
 have hmb : 0 ≤ m.metric ∧ m.metric ≤ 255 := by rw [← putM_metric hm]; have := UInt8.toNat_lt ((putM m).getD 3 0); omega
 refine FnC.intro Tryz.func68 rfl 51 rfl (by simp) (fun z => ?_)
 refine TC.en (E' := [(0, _)]) ?_
 refine TC.sr ?_
 refine TL.d (Does.box rfl rfl) ?_
 rintro _ _ ⟨b1, rfl, rfl⟩
 refine TL.d (Does.alloc ze39 rfl) ?_
 rintro _ _ ⟨b2, rfl, rfl⟩
 refine TL.v (Val.assign rfl) ?_
 refine TL.nt ?_
 refine TC.en (E' := [(1, _), (2, _), (3, _)]) ?_
 refine TC.seq ?_
 refine TC.sr ?_
 refine TL.v (Val.load 1 rfl ag34 rfl rfl) ?_
 refine TL.v (Val.lenSl rfl rfl sl34) ?_
 refine TL.v (Val.neqI rfl rfl) ?_
 refine TL.nt ?_
 refine TC.en (E' := [(1, _), (2, _), (3, _), (10, _)]) ?_
 refine TC.condP rfl (fun c1 => ?_) (fun c1 => ?_)
 ·
  exact absurd rfl c1
 ·
  refine TC.en (E' := [(1, _), (2, _), (3, _)]) ?_
  refine TC.skip ?_
  refine AtX.then ?_
  refine TC.en (E' := [(1, _), (2, _), (3, _)]) ?_
  refine TC.sr ?_
  refine TL.v (Val.makeFunc rfl rfl) ?_
  refine TL.v (Val.assign rfl) ?_
  refine TL.nt ?_
  refine TC.en (E' := [(1, _), (2, _), (3, _), (4, _)]) ?_
  refine TC.join (ι := Nat) (fun x => [(1, .pointer (some ⟨b1, 0, none⟩)), (2, .pointer (some ⟨b2, 0, none⟩)), (3, .int .i64 0), (5, .pointer (some ⟨x, 0, none⟩))]) (fun x => (x, .cells #[.int .i64 m.kind, .int .i64 m.who, .int .i64 m.gen, .int .i64 m.seq, .int .i64 m.epoch, .int .i64 m.value, .int .i64 m.metric] 39 (0, 0)) :: (b2, .cells #[.int .i64 0, .int .i64 0, .int .i64 0, .int .i64 0, .int .i64 0, .int .i64 0, .int .i64 0] 39 (0, 0)) :: (b1, .cells #[.slice (some ⟨bA, oA, none⟩) 32 c] 34 (0, 0)) :: M) (fun _ => True) ?_ ?_
  ·
   refine TC.drawL ((b1, .cells #[.slice (some ⟨bA, oA, none⟩) 32 c] 34 (0, 0)) :: M) mixed 25 ?_
   refine TA.tk 0 1 rfl rfl rfl (Val.load 0 rfl ag34 rfl rfl) ?_
   refine TA.tk 1 3 rfl rfl rfl (Val.indexAddr (i := 1) (r := oA + 1) rfl rfl sl34 sz5 rfl (by omega) (by omega)) ?_
   refine TA.tk 2 7 rfl rfl rfl (Val.loadB 1 rfl ag5 (hR.cons _) rfl (by simp)) ?_
   refine TA.tk 3 15 rfl rfl rfl (Val.convI rfl iu5 in3 (r := m.kind) (by rw [putM_kind hm]; exact w_i64 (by omega) (by omega))) ?_
   refine TA.tk 4 31 rfl rfl rfl (Val.load 0 rfl ag34 rfl rfl) ?_
   refine TA.tk 5 63 rfl rfl rfl (Val.indexAddr (i := 2) (r := oA + 2) rfl rfl sl34 sz5 rfl (by omega) (by omega)) ?_
   refine TA.tk 6 127 rfl rfl rfl (Val.loadB 2 rfl ag5 (hR.cons _) rfl (by simp)) ?_
   refine TA.tk 7 255 rfl rfl rfl (Val.convI rfl iu5 in3 (r := m.who) (by rw [putM_who hm]; exact w_i64 (by omega) (by omega))) ?_
   refine TA.tk 8 511 rfl rfl rfl (Val.load 0 rfl ag34 rfl rfl) ?_
   refine TA.tk 9 1023 rfl rfl rfl (Val.indexAddr (i := 3) (r := oA + 3) rfl rfl sl34 sz5 rfl (by omega) (by omega)) ?_
   refine TA.tk 10 2047 rfl rfl rfl (Val.loadB 3 rfl ag5 (hR.cons _) rfl (by simp)) ?_
   refine TA.tk 11 4095 rfl rfl rfl (Val.convI rfl iu5 in3 (r := m.metric) (by rw [putM_metric hm]; exact w_i64 (by omega) (by omega))) ?_
   refine TA.tk 12 8191 rfl rfl rfl (Val.move rfl) ?_
   refine TA.tk 16 73727 rfl rfl rfl (Val.move rfl) ?_
   refine TA.tk 18 335871 rfl rfl rfl (Val.move rfl) ?_
   refine TA.tk 20 1384447 rfl rfl rfl (Val.move rfl) ?_
   refine TA.two 13 23 (by kernel_rfl) ?_ ?_
   ·
    refine TO.dz 1392639 (some 26) rfl rfl rfl rfl (Does.callC (cap := [.pointer (some ⟨b1, 0, none⟩)]) rfl go93 rfl (clo105_fn (putM m) (some ⟨bA, oA, none⟩) 32 c 4 b1 1 _ rfl ((hA.cons _).cons _) (by simp) (by simp) (by simp))) ?_
    rintro _ _ ⟨rfl, rfl⟩
    refine roK ?_
    refine TA.tk 14 1409023 rfl rfl rfl (Val.convI rfl iu2 in161 rfl) ?_
    refine TA.tk 15 1441791 rfl rfl rfl (Val.convI rfl iu161 in3 (r := m.gen) (by rw [putM_gen hm]; exact w_i64 (by omega) (by omega))) ?_
    refine TA.two 17 23 (by kernel_rfl) ?_ ?_
    ·
     refine TO.dz 1572863 (some 30) rfl rfl rfl rfl (Does.callC (cap := [.pointer (some ⟨b1, 0, none⟩)]) rfl go93 rfl (clo105_fn (putM m) (some ⟨bA, oA, none⟩) 32 c 8 b1 1 _ rfl ((hA.cons _).cons _) (by simp) (by simp) (by simp))) ?_
     rintro _ _ ⟨rfl, rfl⟩
     rw [show IntKind.i64.wrap ((get8 (putM m) 8 : Nat) : Int) = m.seq from by rw [putM_seq hm]; exact w_i64 (by omega) (by omega)]
     refine roK ?_
     refine TA.two 19 23 (by kernel_rfl) ?_ ?_
     ·
      refine TO.dz 2097151 (some 32) rfl rfl rfl rfl (Does.callC (cap := [.pointer (some ⟨b1, 0, none⟩)]) rfl go93 rfl (clo105_fn (putM m) (some ⟨bA, oA, none⟩) 32 c 16 b1 1 _ rfl ((hA.cons _).cons _) (by simp) (by simp) (by simp))) ?_
      rintro _ _ ⟨rfl, rfl⟩
      rw [show IntKind.i64.wrap ((get8 (putM m) 16 : Nat) : Int) = m.epoch from by rw [putM_epoch hm]; exact w_i64 (by omega) (by omega)]
      refine roK ?_
      refine TA.two 21 23 (by kernel_rfl) ?_ ?_
      ·
       refine TO.dz 4194303 (some 34) rfl rfl rfl rfl (Does.callC (cap := [.pointer (some ⟨b1, 0, none⟩)]) rfl go93 rfl (clo105_fn (putM m) (some ⟨bA, oA, none⟩) 32 c 24 b1 1 _ rfl ((hA.cons _).cons _) (by simp) (by simp) (by simp))) ?_
       rintro _ _ ⟨rfl, rfl⟩
       rw [show IntKind.i64.wrap ((get8 (putM m) 24 : Nat) : Int) = m.value from by rw [putM_value hm]; exact w_i64 (by omega) (by omega)]
       refine roK ?_
       refine TA.tk 22 8388607 rfl rfl rfl (Val.buildS pl39 ze39 rfl rfl) ?_
       refine TA.one 23 (by kernel_rfl) ?_
       refine TO.dz 16777215 (some 5) rfl rfl rfl rfl (Does.alloc ze39 rfl) ?_
       rintro _ _ ⟨bm, rfl, rfl⟩
       refine roK ?_
       refine TA.one 24 (by kernel_rfl) ?_
       refine TO.dz 33554431 none rfl rfl rfl rfl (Does.store (i := 0) rfl rfl rfl sz39 rfl rfl (by first | exact Nat.le_of_ble_eq_true rfl | decide | omega) rfl rfl) ?_
       rintro _ _ ⟨rfl, rfl⟩
       refine roK ?_
       refine TA.done (by kernel_rfl) ?_
       refine AtX.join bm ?_ (Sub.cons rfl (Sub.cons rfl (Sub.cons rfl (Sub.cons rfl (Sub.nil _))))) (fun w h => h)
       trivial
      ·
       refine TO.dz 10485759 (some 5) rfl rfl rfl rfl (Does.alloc ze39 rfl) ?_
       rintro _ _ ⟨bm, rfl, rfl⟩
       refine roK ?_
       refine TA.one 21 (by kernel_rfl) ?_
       refine TO.dz 12582911 (some 34) rfl rfl rfl rfl (Does.callC (cap := [.pointer (some ⟨b1, 0, none⟩)]) rfl go93 rfl (clo105_fn (putM m) (some ⟨bA, oA, none⟩) 32 c 24 b1 2 _ rfl (((hA.cons _).cons _).cons _) (by simp) (by simp) (by simp))) ?_
       rintro _ _ ⟨rfl, rfl⟩
       rw [show IntKind.i64.wrap ((get8 (putM m) 24 : Nat) : Int) = m.value from by rw [putM_value hm]; exact w_i64 (by omega) (by omega)]
       refine roK ?_
       refine TA.tk 22 16777215 rfl rfl rfl (Val.buildS pl39 ze39 rfl rfl) ?_
       refine TA.one 24 (by kernel_rfl) ?_
       refine TO.dz 33554431 none rfl rfl rfl rfl (Does.store (i := 0) rfl rfl rfl sz39 rfl rfl (by first | exact Nat.le_of_ble_eq_true rfl | decide | omega) rfl rfl) ?_
       rintro _ _ ⟨rfl, rfl⟩
       refine roK ?_
       refine TA.done (by kernel_rfl) ?_
       refine AtX.join bm ?_ (Sub.cons rfl (Sub.cons rfl (Sub.cons rfl (Sub.cons rfl (Sub.nil _))))) (fun w h => h)
       trivial
     ·
      refine TO.dz 9961471 (some 5) rfl rfl rfl rfl (Does.alloc ze39 rfl) ?_
      rintro _ _ ⟨bm, rfl, rfl⟩
      refine roK ?_
      refine TA.one 19 (by kernel_rfl) ?_
      refine TO.dz 10485759 (some 32) rfl rfl rfl rfl (Does.callC (cap := [.pointer (some ⟨b1, 0, none⟩)]) rfl go93 rfl (clo105_fn (putM m) (some ⟨bA, oA, none⟩) 32 c 16 b1 2 _ rfl (((hA.cons _).cons _).cons _) (by simp) (by simp) (by simp))) ?_
      rintro _ _ ⟨rfl, rfl⟩
      rw [show IntKind.i64.wrap ((get8 (putM m) 16 : Nat) : Int) = m.epoch from by rw [putM_epoch hm]; exact w_i64 (by omega) (by omega)]
      refine roK ?_
      refine TA.one 21 (by kernel_rfl) ?_
      refine TO.dz 12582911 (some 34) rfl rfl rfl rfl (Does.callC (cap := [.pointer (some ⟨b1, 0, none⟩)]) rfl go93 rfl (clo105_fn (putM m) (some ⟨bA, oA, none⟩) 32 c 24 b1 2 _ rfl (((hA.cons _).cons _).cons _) (by simp) (by simp) (by simp))) ?_
      rintro _ _ ⟨rfl, rfl⟩
      rw [show IntKind.i64.wrap ((get8 (putM m) 24 : Nat) : Int) = m.value from by rw [putM_value hm]; exact w_i64 (by omega) (by omega)]
      refine roK ?_
      refine TA.tk 22 16777215 rfl rfl rfl (Val.buildS pl39 ze39 rfl rfl) ?_
      refine TA.one 24 (by kernel_rfl) ?_
      refine TO.dz 33554431 none rfl rfl rfl rfl (Does.store (i := 0) rfl rfl rfl sz39 rfl rfl (by first | exact Nat.le_of_ble_eq_true rfl | decide | omega) rfl rfl) ?_
      rintro _ _ ⟨rfl, rfl⟩
      refine roK ?_
      refine TA.done (by kernel_rfl) ?_
      refine AtX.join bm ?_ (Sub.cons rfl (Sub.cons rfl (Sub.cons rfl (Sub.cons rfl (Sub.nil _))))) (fun w h => h)
      trivial
    ·
     refine TO.dz 9830399 (some 5) rfl rfl rfl rfl (Does.alloc ze39 rfl) ?_
     rintro _ _ ⟨bm, rfl, rfl⟩
     refine roK ?_
     refine TA.one 17 (by kernel_rfl) ?_
     refine TO.dz 9961471 (some 30) rfl rfl rfl rfl (Does.callC (cap := [.pointer (some ⟨b1, 0, none⟩)]) rfl go93 rfl (clo105_fn (putM m) (some ⟨bA, oA, none⟩) 32 c 8 b1 2 _ rfl (((hA.cons _).cons _).cons _) (by simp) (by simp) (by simp))) ?_
     rintro _ _ ⟨rfl, rfl⟩
     rw [show IntKind.i64.wrap ((get8 (putM m) 8 : Nat) : Int) = m.seq from by rw [putM_seq hm]; exact w_i64 (by omega) (by omega)]
     refine roK ?_
     refine TA.one 19 (by kernel_rfl) ?_
     refine TO.dz 10485759 (some 32) rfl rfl rfl rfl (Does.callC (cap := [.pointer (some ⟨b1, 0, none⟩)]) rfl go93 rfl (clo105_fn (putM m) (some ⟨bA, oA, none⟩) 32 c 16 b1 2 _ rfl (((hA.cons _).cons _).cons _) (by simp) (by simp) (by simp))) ?_
     rintro _ _ ⟨rfl, rfl⟩
     rw [show IntKind.i64.wrap ((get8 (putM m) 16 : Nat) : Int) = m.epoch from by rw [putM_epoch hm]; exact w_i64 (by omega) (by omega)]
     refine roK ?_
     refine TA.one 21 (by kernel_rfl) ?_
     refine TO.dz 12582911 (some 34) rfl rfl rfl rfl (Does.callC (cap := [.pointer (some ⟨b1, 0, none⟩)]) rfl go93 rfl (clo105_fn (putM m) (some ⟨bA, oA, none⟩) 32 c 24 b1 2 _ rfl (((hA.cons _).cons _).cons _) (by simp) (by simp) (by simp))) ?_
     rintro _ _ ⟨rfl, rfl⟩
     rw [show IntKind.i64.wrap ((get8 (putM m) 24 : Nat) : Int) = m.value from by rw [putM_value hm]; exact w_i64 (by omega) (by omega)]
     refine roK ?_
     refine TA.tk 22 16777215 rfl rfl rfl (Val.buildS pl39 ze39 rfl rfl) ?_
     refine TA.one 24 (by kernel_rfl) ?_
     refine TO.dz 33554431 none rfl rfl rfl rfl (Does.store (i := 0) rfl rfl rfl sz39 rfl rfl (by first | exact Nat.le_of_ble_eq_true rfl | decide | omega) rfl rfl) ?_
     rintro _ _ ⟨rfl, rfl⟩
     refine roK ?_
     refine TA.done (by kernel_rfl) ?_
     refine AtX.join bm ?_ (Sub.cons rfl (Sub.cons rfl (Sub.cons rfl (Sub.cons rfl (Sub.nil _))))) (fun w h => h)
     trivial
   ·
    refine TO.dz 9773055 (some 5) rfl rfl rfl rfl (Does.alloc ze39 rfl) ?_
    rintro _ _ ⟨bm, rfl, rfl⟩
    refine roK ?_
    refine TA.one 13 (by kernel_rfl) ?_
    refine TO.dz 9781247 (some 26) rfl rfl rfl rfl (Does.callC (cap := [.pointer (some ⟨b1, 0, none⟩)]) rfl go93 rfl (clo105_fn (putM m) (some ⟨bA, oA, none⟩) 32 c 4 b1 2 _ rfl (((hA.cons _).cons _).cons _) (by simp) (by simp) (by simp))) ?_
    rintro _ _ ⟨rfl, rfl⟩
    refine roK ?_
    refine TA.tk 14 9797631 rfl rfl rfl (Val.convI rfl iu2 in161 rfl) ?_
    refine TA.tk 15 9830399 rfl rfl rfl (Val.convI rfl iu161 in3 (r := m.gen) (by rw [putM_gen hm]; exact w_i64 (by omega) (by omega))) ?_
    refine TA.one 17 (by kernel_rfl) ?_
    refine TO.dz 9961471 (some 30) rfl rfl rfl rfl (Does.callC (cap := [.pointer (some ⟨b1, 0, none⟩)]) rfl go93 rfl (clo105_fn (putM m) (some ⟨bA, oA, none⟩) 32 c 8 b1 2 _ rfl (((hA.cons _).cons _).cons _) (by simp) (by simp) (by simp))) ?_
    rintro _ _ ⟨rfl, rfl⟩
    rw [show IntKind.i64.wrap ((get8 (putM m) 8 : Nat) : Int) = m.seq from by rw [putM_seq hm]; exact w_i64 (by omega) (by omega)]
    refine roK ?_
    refine TA.one 19 (by kernel_rfl) ?_
    refine TO.dz 10485759 (some 32) rfl rfl rfl rfl (Does.callC (cap := [.pointer (some ⟨b1, 0, none⟩)]) rfl go93 rfl (clo105_fn (putM m) (some ⟨bA, oA, none⟩) 32 c 16 b1 2 _ rfl (((hA.cons _).cons _).cons _) (by simp) (by simp) (by simp))) ?_
    rintro _ _ ⟨rfl, rfl⟩
    rw [show IntKind.i64.wrap ((get8 (putM m) 16 : Nat) : Int) = m.epoch from by rw [putM_epoch hm]; exact w_i64 (by omega) (by omega)]
    refine roK ?_
    refine TA.one 21 (by kernel_rfl) ?_
    refine TO.dz 12582911 (some 34) rfl rfl rfl rfl (Does.callC (cap := [.pointer (some ⟨b1, 0, none⟩)]) rfl go93 rfl (clo105_fn (putM m) (some ⟨bA, oA, none⟩) 32 c 24 b1 2 _ rfl (((hA.cons _).cons _).cons _) (by simp) (by simp) (by simp))) ?_
    rintro _ _ ⟨rfl, rfl⟩
    rw [show IntKind.i64.wrap ((get8 (putM m) 24 : Nat) : Int) = m.value from by rw [putM_value hm]; exact w_i64 (by omega) (by omega)]
    refine roK ?_
    refine TA.tk 22 16777215 rfl rfl rfl (Val.buildS pl39 ze39 rfl rfl) ?_
    refine TA.one 24 (by kernel_rfl) ?_
    refine TO.dz 33554431 none rfl rfl rfl rfl (Does.store (i := 0) rfl rfl rfl sz39 rfl rfl (by first | exact Nat.le_of_ble_eq_true rfl | decide | omega) rfl rfl) ?_
    rintro _ _ ⟨rfl, rfl⟩
    refine roK ?_
    refine TA.done (by kernel_rfl) ?_
    refine AtX.join bm ?_ (Sub.cons rfl (Sub.cons rfl (Sub.cons rfl (Sub.cons rfl (Sub.nil _))))) (fun w h => h)
    trivial
  ·
   intro bm _
   refine TC.seq ?_
   refine TC.sr ?_
   refine TL.v (Val.loadAgg 0 rfl ag39 sz39 rfl rfl rfl) ?_
   refine TL.d (Does.callF go89 rfl (wPut_fn m _ hm)) ?_
   rintro _ _ ⟨bB, cB, spB, rfl, hcB, rfl⟩
   refine TL.v (Val.move rfl) ?_
   refine TL.v (Val.extract rfl rfl) ?_
   refine TL.v (Val.extract rfl rfl) ?_
   refine TL.v (Val.assign rfl) ?_
   refine TL.v (Val.assign rfl) ?_
   refine TL.nt ?_
   refine TC.en (E' := [(1, _), (2, _), (3, _), (5, _), (6, _), (7, _)]) ?_
   refine TC.sr ?_
   refine TL.v (Val.move rfl) ?_
   refine TL.v (Val.neqI rfl rfl) ?_
   refine TL.v (Val.move rfl) ?_
   refine TL.vy (Val.move rfl) ?_
   refine TL.vy (Val.load 3 rfl ag34 rfl rfl) ?_
   refine TL.dy (Does.callF go95 rfl (Equal_fn (putM m) (putM m) _ _ _ _ _ _ _ (rd_all (i := 0) rfl) ((((hA.cons _).cons _).cons _).cons _) (by simp) (by simp))) ?_
   rintro _ _ ⟨ge, hge, rfl, rfl⟩
   simp at hge
   subst hge
   refine TL.vy (Val.not rfl) ?_
   refine TL.v (Val.pickOr rfl rfl rfl) ?_
   refine TL.nt ?_
   refine TC.en (E' := [(2, _), (3, _), (5, _), (48, _)]) ?_
   refine TC.cond rfl (fun c2 => ?_) (fun c2 => ?_)
   ·
    (exfalso; simp at c2)
   ·
    refine TC.en (E' := [(2, _), (3, _), (5, _)]) ?_
    refine TC.skip ?_
    refine AtX.then ?_
    refine TC.en (E' := [(2, _), (3, _), (5, _)]) ?_
    refine TC.sr ?_
    refine TL.v (Val.loadAgg 1 rfl ag39 sz39 rfl rfl rfl) ?_
    refine TL.d (Does.store (i := 2) rfl rfl rfl sz39 rfl rfl (by first | exact Nat.le_of_ble_eq_true rfl | decide | omega) rfl rfl) ?_
    rintro _ _ ⟨rfl, rfl⟩
    refine TL.v (Val.assign rfl) ?_
    refine TL.nt ?_
    refine TC.en (E' := [(2, _), (3, _)]) ?_
    refine TC.ret2 (fn := Tryz.f68) (fun _ _ h => h) rfl (RV.agg (i := 2) rfl ag39 sz39 rfl rfl rfl) (RV.tmp rfl) (M' := M) (by repeat (first | exact ro_refl | exact ro_pre | refine ro_tail ?_ | refine ro_app ?_)) ?_
    exact ⟨rfl, rfl⟩

/-- quorumite/mac.From -/
theorem From_fn (l : List UInt8) (A : Option Addr) (n c : Nat) (M : Hp) (hA : RdS M A (bv l)) (hn : n = l.length) (hl : l.length = 16) : FnC Tryz.prog 69 #[.slice A n c] M (fun v M' => v = .tuple #[.agg #[.int .u64 (get8 l 0 : Nat), .int .u64 (get8 l 8 : Nat)], .int .i64 0] ∧ M = M') := by
 rw [hl] at hn
 subst hn
 refine FnC.intro Tryz.func69 rfl 24 rfl (by simp) (fun z => ?_)
 refine TC.en (E' := [(0, _)]) ?_
 refine TC.sr ?_
 refine TL.d (Does.alloc ze98 rfl) ?_
 rintro _ _ ⟨b1, rfl, rfl⟩
 refine TL.v (Val.assign rfl) ?_
 refine TL.nt ?_
 refine TC.seq ?_
 refine TC.sr ?_
 refine TL.v (Val.move rfl) ?_
 refine TL.v (Val.lenSl rfl rfl sl34) ?_
 refine TL.v (Val.neqI rfl rfl) ?_
 refine TL.nt ?_
 refine TC.en (E' := [(0, _), (2, _), (3, _), (8, _)]) ?_
 refine TC.condP rfl (fun c1 => ?_) (fun c1 => ?_)
 ·
  exact absurd rfl c1
 ·
  refine TC.en (E' := [(0, _), (2, _), (3, _)]) ?_
  refine TC.skip ?_
  refine AtX.then ?_
  refine TC.en (E' := [(0, _), (2, _), (3, _)]) ?_
  refine TC.sr ?_
  refine TL.d (Does.alloc ze98 rfl) ?_
  rintro _ _ ⟨b2, rfl, rfl⟩
  refine TL.nt ?_
  refine TC.en (E' := [(0, _), (2, _), (3, _), (4, _)]) ?_
  refine TC.seq ?_
  refine TC.sr ?_
  refine TL.v (Val.move rfl) ?_
  refine TL.nt ?_
  refine TC.en (E' := [(0, _), (2, _), (3, _), (4, _), (10, _)]) ?_
  refine TC.block ?_
  refine TC.loop (ι := Nat) (fun k => [(0, .slice A 16 c), (2, .pointer (some ⟨b1, 0, none⟩)), (3, .int .i64 0), (4, .pointer (some ⟨b2, 0, none⟩)), (10, .int .i64 (k : Nat))]) (fun k => (b2, .cells (fR l k).toArray 98 (0, 0)) :: (b1, .cells #[.int .u64 0, .int .u64 0] 98 (0, 0)) :: M) (fun k => k ≤ 2) (fun k => 2 - k) 0 ?_ (Sub.cons rfl (Sub.cons rfl (Sub.cons rfl (Sub.cons rfl (Sub.cons rfl (Sub.nil _)))))) (fun w h => by rw [fR_0]; exact h) ?_
  · exact Nat.zero_le _
  intro k hk
  refine TC.sr ?_
  refine TL.v (Val.lss rfl rfl) ?_
  refine TL.nt ?_
  refine TC.seq ?_
  refine TC.condP rfl (fun c2 => ?_) (fun c2 => ?_)
  ·
   refine TC.skip ?_
   refine AtX.then ?_
   refine TC.seq ?_
   refine TC.block ?_
   refine TC.sr ?_
   refine TL.v (Val.move rfl) ?_
   refine TL.v (Val.assign rfl) ?_
   refine TL.nt ?_
   have hk2 : k < 2 := by omega
   refine TC.region ?_
   refine TL.v (Val.move rfl) ?_
   refine TL.v (Val.move rfl) ?_
   refine TL.v (Val.move rfl) ?_
   refine TL.v (Val.mul rfl rfl (r := ((8 * k : Nat) : Int)) (by rw [w_i64 (by omega) (by omega)]; push_cast; rfl)) ?_
   refine TL.d (Does.callF go94 rfl (sipGet_fn l _ _ _ (8 * k) _ ((hA.cons _).cons _) hl.symm (by omega) (by omega))) ?_
   rintro _ _ ⟨rfl, rfl⟩
   refine TL.v (Val.move rfl) ?_
   refine TL.v (Val.extract rfl rfl) ?_
   refine TL.v (Val.extract rfl rfl) ?_
   refine TL.v (Val.indexAddrA (i := k) (r := k) rfl rfl ar98 sz24 rfl hk2 (by omega)) ?_
   refine TL.d (Does.store (i := 0) rfl rfl rfl sz24 rfl rfl (by simp [fR]; omega) (fR_splice (l := l) hk2) rfl) ?_
   rintro _ _ ⟨rfl, rfl⟩
   refine TL.nil ?_
   refine AtX.blk ?_
   refine AtX.then ?_
   refine TC.en (E' := [(0, _), (2, _), (3, _), (4, _), (5, _), (10, _), (11, _), (12, _), (13, _), (14, _), (15, _), (16, _), (17, _), (18, _), (19, _), (21, _)]) ?_
   refine TC.region ?_
   refine TL.v (Val.add rfl rfl (w_i64 (by omega) (by omega))) ?_
   refine TL.v (Val.move rfl) ?_
   refine TL.nil ?_
   refine AtX.round (k + 1) ?_ ?_ (Sub.cons rfl (Sub.cons rfl (Sub.cons rfl (Sub.cons rfl (Sub.cons rfl (Sub.nil _)))))) (fun _ h => h)
   · omega
   · omega
  ·
   refine TC.exit ?_
   refine AtX.seqX ?_
   refine AtX.seqX ?_
   refine AtX.hit ?_
   refine AtX.then ?_
   refine TC.en (E' := [(2, _), (3, _), (4, _)]) ?_
   refine TC.seq ?_
   have h2 : k = 2 := by omega
   subst h2
   rw [fR_2]
   refine TC.region ?_
   refine TL.v (Val.loadAgg 0 rfl ag98 sz98 rfl rfl rfl) ?_
   refine TL.d (Does.store (i := 1) rfl rfl rfl sz98 rfl rfl (by first | exact Nat.le_of_ble_eq_true rfl | decide | omega) rfl rfl) ?_
   rintro _ _ ⟨rfl, rfl⟩
   refine TL.v (Val.assign rfl) ?_
   refine TL.nt ?_
   refine TC.en (E' := [(2, _), (3, _)]) ?_
   refine TC.ret2 (fn := Tryz.f69) (fun _ _ h => h) rfl (RV.agg (i := 1) rfl ag98 sz98 rfl rfl rfl) (RV.tmp rfl) (M' := M) (by repeat (first | exact ro_refl | exact ro_pre | refine ro_tail ?_ | refine ro_app ?_)) ?_
   exact ⟨rfl, rfl⟩

/-- quorumite/mac.Same -/
theorem Same_fn (s t : K2) (M : Hp) : FnC Tryz.prog 71 #[.agg #[.int .u64 s.a, .int .u64 s.b], .agg #[.int .u64 t.a, .int .u64 t.b]] M (fun v M' => v = .bool (decide (bitsOf .or .u64 (xor64 s.a t.a) (xor64 s.b t.b) = 0)) ∧ M = M') := by
 refine FnC.intro Tryz.func71 rfl 17 rfl (by simp) (fun z => ?_)
 refine TC.en (E' := [(0, _), (1, _)]) ?_
 refine TC.sr ?_
 refine TL.d (Does.box rfl rfl) ?_
 rintro _ _ ⟨b1, rfl, rfl⟩
 refine TL.d (Does.box rfl rfl) ?_
 rintro _ _ ⟨b2, rfl, rfl⟩
 refine TL.v (Val.assign rfl) ?_
 refine TL.nt ?_
 refine TC.en (E' := [(2, _), (3, _), (4, _)]) ?_
 refine TC.sr ?_
 refine TL.v (Val.indexAddrA (i := 0) rfl rfl ar98 sz24 rfl (by first | decide | omega) rfl) ?_
 refine TL.v (Val.load 1 rfl ag24 rfl rfl) ?_
 refine TL.v (Val.indexAddrA (i := 0) rfl rfl ar98 sz24 rfl (by first | decide | omega) rfl) ?_
 refine TL.v (Val.load 0 rfl ag24 rfl rfl) ?_
 refine TL.v (Val.xor rfl rfl rfl) ?_
 refine TL.v (Val.indexAddrA (i := 1) rfl rfl ar98 sz24 rfl (by first | decide | omega) rfl) ?_
 refine TL.v (Val.load 1 rfl ag24 rfl rfl) ?_
 refine TL.v (Val.indexAddrA (i := 1) rfl rfl ar98 sz24 rfl (by first | decide | omega) rfl) ?_
 refine TL.v (Val.load 0 rfl ag24 rfl rfl) ?_
 refine TL.v (Val.xor rfl rfl rfl) ?_
 refine TL.v (Val.or rfl rfl rfl) ?_
 refine TL.v (Val.eqlI rfl rfl) ?_
 refine TL.v (Val.assign rfl) ?_
 refine TL.nt ?_
 refine TC.en (E' := [(4, _)]) ?_
 refine TC.ret1 (fn := Tryz.f71) (fun _ _ h => h) rfl (RV.tmp rfl) (M' := M) (by repeat (first | exact ro_refl | exact ro_pre | refine ro_tail ?_ | refine ro_app ?_)) ?_
 exact ⟨rfl, rfl⟩

end Go.Proofs.YtphoapajlcaoeaaGreat
/- walks -/
set_option linter.unusedVariables false
set_option linter.unusedSimpArgs false
set_option maxRecDepth 100000
set_option maxHeartbeats 4000000
namespace Go.Proofs.YtphoapajlcaoeaaGreat
open Go Go.X
theorem perm_4 {a b c d : Nat × Obj} {M : Hp} : (a :: b :: c :: d :: M).Perm (c :: d :: a :: b :: M) := by
 have h : ([a, b] ++ ([c, d] ++ M)).Perm ([c, d] ++ ([a, b] ++ M)) := by
  rw [← List.append_assoc, ← List.append_assoc]
  exact List.perm_append_comm.append_right M
 exact h
/-- quorumite/wire.Split -/
theorem Split_fn (m : Ms) (tl : List UInt8) (A : Option Addr) (n c : Nat) (M : Hp) (hA : RdS M A (bv (putM m ++ tl))) (hn : n = 48) (hc : 48 ≤ c) (ht : tl.length = 16) (hm : mayM m = true) : FnC Tryz.prog 37 #[.slice A n c] M (fun v M' => ∃ σ, v = .tuple #[.agg #[.int .i64 m.kind, .int .i64 m.who, .int .i64 m.gen, .int .i64 m.seq, .int .i64 m.epoch, .int .i64 m.value, .int .i64 m.metric], .slice (slA σ) 32 (slC σ), .agg #[.int .u64 (get8 tl 0 : Nat), .int .u64 (get8 tl 8 : Nat)], .int .i64 0] ∧ slOk σ 1 32 (bv (putM m)) ∧ M' = slH σ 5 (bv (putM m)) ++ M) := by
 subst hn
 obtain ⟨bA, oA, rfl, hR⟩ := RdS.get hA (by simp; omega)
 have hA1 : RdS M (some ⟨bA, oA, none⟩) (bv (putM m)) := by have h := rdS_takeB hA 32; rw [List.take_left' (by simp)] at h; exact h
 have hA2 : RdS M (some ⟨bA, oA + 32, none⟩) (bv tl) := by have h := hR.drop 32; rw [← bv_drop, List.drop_left' (by simp)] at h; exact .some h
 refine FnC.intro Tryz.func37 rfl 37 rfl (by simp) (fun z => ?_)
 refine TC.en (E' := [(0, _)]) ?_
 refine TC.sr ?_
 refine TL.d (Does.alloc ze39 rfl) ?_
 rintro _ _ ⟨b1, rfl, rfl⟩
 refine TL.v (Val.assign rfl) ?_
 refine TL.d (Does.alloc ze98 rfl) ?_
 rintro _ _ ⟨b2, rfl, rfl⟩
 refine TL.v (Val.assign rfl) ?_
 refine TL.nt ?_
 refine TC.seq ?_
 refine TC.sr ?_
 refine TL.v (Val.move rfl) ?_
 refine TL.v (Val.lenSl rfl rfl sl34) ?_
 refine TL.v (Val.neqI rfl rfl) ?_
 refine TL.nt ?_
 refine TC.en (E' := [(0, _), (2, _), (3, _), (4, _), (5, _), (12, _)]) ?_
 refine TC.condP rfl (fun c1 => ?_) (fun c1 => ?_)
 ·
  exact absurd rfl c1
 ·
  refine TC.en (E' := [(0, _), (2, _), (3, _), (4, _), (5, _)]) ?_
  refine TC.skip ?_
  refine AtX.then ?_
  refine TC.en (E' := [(0, _), (2, _), (3, _), (4, _), (5, _)]) ?_
  refine TC.sr ?_
  refine TL.v (Val.move rfl) ?_
  refine TL.v (Val.sliceTo (j := 32) rfl sl34 sz5 rfl rfl (by omega)) ?_
  refine TL.d (Does.callF go68 rfl (wGet_fn m _ _ _ _ ((hA1.cons _).cons _) rfl hm)) ?_
  rintro _ _ ⟨rfl, rfl⟩
  refine TL.v (Val.move rfl) ?_
  refine TL.v (Val.extract rfl rfl) ?_
  refine TL.v (Val.extract rfl rfl) ?_
  refine TL.d (Does.alloc ze39 rfl) ?_
  rintro _ _ ⟨b6, rfl, rfl⟩
  refine TL.d (Does.store (i := 0) rfl rfl rfl sz39 rfl rfl (by first | exact Nat.le_of_ble_eq_true rfl | decide | omega) rfl rfl) ?_
  rintro _ _ ⟨rfl, rfl⟩
  refine TL.v (Val.assign rfl) ?_
  refine TL.nt ?_
  refine TC.en (E' := [(0, _), (2, _), (3, _), (4, _), (5, _), (6, _), (7, _)]) ?_
  refine TC.seq ?_
  refine TC.sr ?_
  refine TL.v (Val.move rfl) ?_
  refine TL.v (Val.neqI rfl rfl) ?_
  refine TL.nt ?_
  refine TC.en (E' := [(0, _), (2, _), (3, _), (4, _), (5, _), (6, _), (7, _), (22, _)]) ?_
  refine TC.condP rfl (fun c2 => ?_) (fun c2 => ?_)
  ·
   exact absurd rfl c2
  ·
   refine TC.en (E' := [(0, _), (2, _), (3, _), (4, _), (5, _), (6, _)]) ?_
   refine TC.skip ?_
   refine AtX.then ?_
   refine TC.en (E' := [(0, _), (2, _), (3, _), (4, _), (5, _), (6, _)]) ?_
   refine TC.sr ?_
   refine TL.v (Val.move rfl) ?_
   refine TL.v (Val.sliceAt (i := 32) (j := 48) rfl sl34 sz5 rfl rfl rfl rfl (by omega) (by omega) (by omega) rfl) ?_
   refine TL.d (Does.callF go69 rfl (From_fn tl _ _ _ _ (((hA2.cons _).cons _).cons _) ht.symm ht)) ?_
   rintro _ _ ⟨rfl, rfl⟩
   refine TL.v (Val.move rfl) ?_
   refine TL.v (Val.extract rfl rfl) ?_
   refine TL.v (Val.extract rfl rfl) ?_
   refine TL.d (Does.alloc ze98 rfl) ?_
   rintro _ _ ⟨b8_, rfl, rfl⟩
   refine TL.d (Does.store (i := 0) rfl rfl rfl sz98 rfl rfl (by first | exact Nat.le_of_ble_eq_true rfl | decide | omega) rfl rfl) ?_
   rintro _ _ ⟨rfl, rfl⟩
   refine TL.v (Val.assign rfl) ?_
   refine TL.nt ?_
   refine TC.en (E' := [(0, _), (2, _), (3, _), (4, _), (5, _), (6, _), (8, _)]) ?_
   refine TC.seq ?_
   refine TC.heap (M' := (b2, .cells #[.int .u64 0, .int .u64 0] 98 (0, 0)) :: (b1, .cells #[.int .i64 0, .int .i64 0, .int .i64 0, .int .i64 0, .int .i64 0, .int .i64 0, .int .i64 0] 39 (0, 0)) :: (b8_, .cells #[.int .u64 (get8 tl 0 : Nat), .int .u64 (get8 tl 8 : Nat)] 98 (0, 0)) :: (b6, .cells #[.int .i64 m.kind, .int .i64 m.who, .int .i64 m.gen, .int .i64 m.seq, .int .i64 m.epoch, .int .i64 m.value, .int .i64 m.metric] 39 (0, 0)) :: M) (fun w h => h.perm (perm_4)) ?_
   refine TC.drawL ((b8_, .cells #[.int .u64 (get8 tl 0 : Nat), .int .u64 (get8 tl 8 : Nat)] 98 (0, 0)) :: (b6, .cells #[.int .i64 m.kind, .int .i64 m.who, .int .i64 m.gen, .int .i64 m.seq, .int .i64 m.epoch, .int .i64 m.value, .int .i64 m.metric] 39 (0, 0)) :: M) mixed 9 ?_
   refine TA.tk 0 1 rfl rfl rfl (Val.loadAgg 1 rfl ag39 sz39 rfl rfl rfl) ?_
   refine TA.tk 1 3 rfl rfl rfl (Val.move rfl) ?_
   refine TA.tk 2 7 rfl rfl rfl (Val.sliceTo (j := 32) rfl sl34 sz5 rfl rfl (by omega)) ?_
   refine TA.tk 4 23 rfl rfl rfl (Val.loadAgg 0 rfl ag98 sz98 rfl rfl rfl) ?_
   refine TA.one 3 (by kernel_rfl) ?_
   refine TO.dz 31 (some 35) rfl rfl rfl rfl (Does.callF go70 rfl (Clone_fn (putM m) ⟨bA, oA, none⟩ _ _ _ ((((hA1.cons _).cons _).cons _).cons _) (by simp) (by simp))) ?_
   rintro _ _ ⟨σ, rfl, hok, rfl⟩
   rw [putM_len] at hok ⊢
   obtain ⟨bc, cc, spc, rfl, hcc⟩ := hok.some (by omega)
   refine roK ?_
   refine TA.one 5 (by kernel_rfl) ?_
   refine TO.dz 63 none rfl rfl rfl rfl (Does.store (i := 2) rfl rfl rfl sz39 rfl rfl (by first | exact Nat.le_of_ble_eq_true rfl | decide | omega) rfl rfl) ?_
   rintro _ _ ⟨rfl, rfl⟩
   refine roK ?_
   refine TA.tk 6 127 rfl rfl rfl (Val.assign rfl) ?_
   refine TA.one 7 (by kernel_rfl) ?_
   refine TO.dz 255 none rfl rfl rfl rfl (Does.store (i := 1) rfl rfl rfl sz98 rfl rfl (by first | exact Nat.le_of_ble_eq_true rfl | decide | omega) rfl rfl) ?_
   rintro _ _ ⟨rfl, rfl⟩
   refine roK ?_
   refine TA.tk 8 511 rfl rfl rfl (Val.assign rfl) ?_
   refine TA.done (by kernel_rfl) ?_
   refine AtX.then ?_
   refine TC.en (E' := [(2, _), (3, _), (4, _), (5, _)]) ?_
   refine TC.ret4 (fn := Tryz.f37) (fun _ _ h => h) rfl (RV.agg (i := 2) rfl ag39 sz39 rfl rfl rfl) (RV.tmp rfl) (RV.agg (i := 1) rfl ag98 sz98 rfl rfl rfl) (RV.tmp rfl) (M' := (bc, row 5 (bv (putM m) ++ spc)) :: M) (fun w h => ro_del 1 rfl w (ro_del 1 rfl w (ro_del 1 rfl w (ro_del 1 rfl w h)))) ?_
   exact ⟨some (bc, cc, spc), rfl, hok, rfl⟩

end Go.Proofs.YtphoapajlcaoeaaGreat
