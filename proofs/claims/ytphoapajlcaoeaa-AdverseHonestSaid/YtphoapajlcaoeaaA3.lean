/- walks -/
import Derived.Test.YtphoapajlcaoeaaA2
import Derived.Test.YtphoapajlcaoeaaES4
import Derived.Test.YtphoapajlcaoeaaE9d
set_option linter.unusedVariables false
set_option linter.unusedSimpArgs false
set_option maxRecDepth 100000
set_option maxHeartbeats 4000000
namespace Go.Proofs.Ytphoapajlcaoeaa
open Go Go.X
/-- (*quorumite/sip.Hash).take -/
theorem take_fn (b : Nat) (w : W4) (A : Option Addr) (l c : Nat) (k m : Int) (M : Hp) : FnC Try.prog 115 #[.pointer (some ⟨b, 0, none⟩), .int .u64 m] (hobj b w A l c k :: M) (fun v M' => v = .tuple #[] ∧ M' = hobj b (takeW m w) A l c k :: M) := by
  refine FnC.intro Try.func115 rfl 26 rfl (by simp) (fun z => ?_)
  refine TC.env (E' := [(0, _), (1, _)]) (Sub.cons rfl (Sub.cons rfl (Sub.nil _))) ?_
  refine TC.seq ?_
  refine TC.drawG [10] M mixed 11 ?_
  refine TG.tk false 0 1 rfl rfl rfl (Val.move rfl) ?_
  refine TG.tk false 1 3 rfl rfl rfl (Val.nilCheck rfl) ?_
  refine TG.tk false 2 7 rfl rfl rfl (Val.fieldAddr rfl fl185_0 sz182 rfl) ?_
  refine TG.tk false 3 15 rfl rfl rfl (Val.indexAddrA (i := 3) rfl rfl ar182 sz24 rfl (by first | decide | omega) rfl) ?_
  first
    | refine TG.tk false 4 31 rfl rfl rfl (Val.load 0 rfl ag24 rfl rfl) ?_
    | refine TG.tk false 4 31 rfl rfl rfl (Val.load 1 rfl ag24 rfl rfl) ?_
    | refine TG.tk false 4 31 rfl rfl rfl (Val.load 2 rfl ag24 rfl rfl) ?_
    | refine TG.tk false 4 31 rfl rfl rfl (Val.load 3 rfl ag24 rfl rfl) ?_
    | refine TG.tk false 4 31 rfl rfl rfl (Val.load 4 rfl ag24 rfl rfl) ?_
    | refine TG.tk false 4 31 rfl rfl rfl (Val.load 5 rfl ag24 rfl rfl) ?_
  refine TG.tk false 5 63 rfl rfl rfl (Val.move rfl) ?_
  refine TG.tk false 6 127 rfl rfl rfl (Val.xor rfl rfl rfl) ?_
  refine TG.tw false 7 255 rfl rfl rfl (Val.nilCheck rfl) ?_
  refine TG.tw false 8 511 rfl rfl rfl (Val.fieldAddr rfl fl185_0 sz182 rfl) ?_
  refine TG.tk false 9 1023 rfl rfl rfl (Val.indexAddrA (i := 3) rfl rfl ar182 sz24 rfl (by first | decide | omega) rfl) ?_
  refine TG.one 10 (by kernel_rfl) ?_
  first
    | refine TP.dz true 2047 none rfl rfl rfl rfl (Does.store (i := 0) rfl rfl rfl sz24 rfl rfl (by first | exact Nat.le_of_ble_eq_true rfl | decide | omega) rfl rfl) ?_
    | refine TP.dz true 2047 none rfl rfl rfl rfl (Does.store (i := 1) rfl rfl rfl sz24 rfl rfl (by first | exact Nat.le_of_ble_eq_true rfl | decide | omega) rfl rfl) ?_
    | refine TP.dz true 2047 none rfl rfl rfl rfl (Does.store (i := 2) rfl rfl rfl sz24 rfl rfl (by first | exact Nat.le_of_ble_eq_true rfl | decide | omega) rfl rfl) ?_
    | refine TP.dz true 2047 none rfl rfl rfl rfl (Does.store (i := 3) rfl rfl rfl sz24 rfl rfl (by first | exact Nat.le_of_ble_eq_true rfl | decide | omega) rfl rfl) ?_
    | refine TP.dz true 2047 none rfl rfl rfl rfl (Does.store (i := 4) rfl rfl rfl sz24 rfl rfl (by first | exact Nat.le_of_ble_eq_true rfl | decide | omega) rfl rfl) ?_
    | refine TP.dz true 2047 none rfl rfl rfl rfl (Does.store (i := 5) rfl rfl rfl sz24 rfl rfl (by first | exact Nat.le_of_ble_eq_true rfl | decide | omega) rfl rfl) ?_
  rintro _ _ ⟨rfl, rfl⟩
  refine roK ?_
  refine TG.done (by kernel_rfl) ?_ _
  refine AtX.then ?_
  refine TC.env (E' := [(0, _), (1, _)]) (Sub.cons rfl (Sub.cons rfl (Sub.nil _))) ?_
  refine TC.seq ?_
  refine TC.region ?_
  refine TL.val rfl rfl (Nat.le_of_ble_eq_true rfl) (Val.move rfl) ?_
  refine TL.does (some 15) rfl rfl rfl (Does.callF go116 rfl (turn_fn b { w with d := xor64 w.d m } A l c k 2 M (by decide))) ?_
  rintro _ _ ⟨rfl, rfl⟩
  generalize hv : rounds 2 { w with d := xor64 w.d m } = v
  refine TL.nil ?_
  refine AtX.then ?_
  refine TC.env (E' := [(0, _), (1, _)]) (Sub.cons rfl (Sub.cons rfl (Sub.nil _))) ?_
  refine TC.drawG [10] M mixed 11 ?_
  refine TG.tk false 0 1 rfl rfl rfl (Val.move rfl) ?_
  refine TG.tk false 1 3 rfl rfl rfl (Val.nilCheck rfl) ?_
  refine TG.tk false 2 7 rfl rfl rfl (Val.fieldAddr rfl fl185_0 sz182 rfl) ?_
  refine TG.tk false 3 15 rfl rfl rfl (Val.indexAddrA (i := 0) rfl rfl ar182 sz24 rfl (by first | decide | omega) rfl) ?_
  first
    | refine TG.tk false 4 31 rfl rfl rfl (Val.load 0 rfl ag24 rfl rfl) ?_
    | refine TG.tk false 4 31 rfl rfl rfl (Val.load 1 rfl ag24 rfl rfl) ?_
    | refine TG.tk false 4 31 rfl rfl rfl (Val.load 2 rfl ag24 rfl rfl) ?_
    | refine TG.tk false 4 31 rfl rfl rfl (Val.load 3 rfl ag24 rfl rfl) ?_
    | refine TG.tk false 4 31 rfl rfl rfl (Val.load 4 rfl ag24 rfl rfl) ?_
    | refine TG.tk false 4 31 rfl rfl rfl (Val.load 5 rfl ag24 rfl rfl) ?_
  refine TG.tk false 5 63 rfl rfl rfl (Val.move rfl) ?_
  refine TG.tk false 6 127 rfl rfl rfl (Val.xor rfl rfl rfl) ?_
  refine TG.tw false 7 255 rfl rfl rfl (Val.nilCheck rfl) ?_
  refine TG.tw false 8 511 rfl rfl rfl (Val.fieldAddr rfl fl185_0 sz182 rfl) ?_
  refine TG.tk false 9 1023 rfl rfl rfl (Val.indexAddrA (i := 0) rfl rfl ar182 sz24 rfl (by first | decide | omega) rfl) ?_
  refine TG.one 10 (by kernel_rfl) ?_
  first
    | refine TP.dz true 2047 none rfl rfl rfl rfl (Does.store (i := 0) rfl rfl rfl sz24 rfl rfl (by first | exact Nat.le_of_ble_eq_true rfl | decide | omega) rfl rfl) ?_
    | refine TP.dz true 2047 none rfl rfl rfl rfl (Does.store (i := 1) rfl rfl rfl sz24 rfl rfl (by first | exact Nat.le_of_ble_eq_true rfl | decide | omega) rfl rfl) ?_
    | refine TP.dz true 2047 none rfl rfl rfl rfl (Does.store (i := 2) rfl rfl rfl sz24 rfl rfl (by first | exact Nat.le_of_ble_eq_true rfl | decide | omega) rfl rfl) ?_
    | refine TP.dz true 2047 none rfl rfl rfl rfl (Does.store (i := 3) rfl rfl rfl sz24 rfl rfl (by first | exact Nat.le_of_ble_eq_true rfl | decide | omega) rfl rfl) ?_
    | refine TP.dz true 2047 none rfl rfl rfl rfl (Does.store (i := 4) rfl rfl rfl sz24 rfl rfl (by first | exact Nat.le_of_ble_eq_true rfl | decide | omega) rfl rfl) ?_
    | refine TP.dz true 2047 none rfl rfl rfl rfl (Does.store (i := 5) rfl rfl rfl sz24 rfl rfl (by first | exact Nat.le_of_ble_eq_true rfl | decide | omega) rfl rfl) ?_
  rintro _ _ ⟨rfl, rfl⟩
  refine roK ?_
  refine TG.done (by kernel_rfl) ?_ _
  refine AtX.end0 rfl (fun _ h => h) ?_
  rw [takeW_eq hv]
  exact ⟨rfl, rfl⟩

/-- quorumite/sip.begin -/
theorem begin_fn (M : Hp) : FnC Try.prog 114 #[] M (fun v M' => v = .agg #[.int .u64 w0.a, .int .u64 w0.b, .int .u64 w0.c, .int .u64 w0.d] ∧ M = M') := by
  refine FnC.intro Try.func114 rfl 25 rfl (by simp) (fun z => ?_)
  refine TC.env (E' := []) (Sub.nil _) ?_
  refine TC.seq ?_
  refine TC.region ?_
  refine TL.does (some 0) rfl rfl rfl (Does.alloc ze182 rfl) ?_
  rintro _ _ ⟨b1, rfl, rfl⟩
  refine TL.nil ?_
  refine AtX.then ?_
  refine TC.seq ?_
  refine TC.seq ?_
  refine TC.region ?_
  refine TL.val rfl rfl (Nat.le_of_ble_eq_true rfl) (Val.move rfl) ?_
  refine TL.nil ?_
  refine AtX.then ?_
  refine TC.block ?_
  refine TC.loop (ι := Nat) (fun k => [(0, .pointer (some ⟨b1, 0, none⟩)), (3, .int .i64 (k : Nat))]) (fun k => (b1, .cells (begR k 0).toArray 182 (0, 0)) :: M) (fun k => k ≤ 4) (fun k => 4 - k) 0 ?_ (Sub.cons rfl (Sub.cons rfl (Sub.nil _))) (fun w h => by rw [begR_0]; exact h) ?_
  · exact Nat.zero_le _
  intro k hk
  refine TC.seq ?_
  refine TC.region ?_
  refine TL.val rfl rfl (Nat.le_of_ble_eq_true rfl) (Val.lss rfl rfl) ?_
  refine TL.nil ?_
  refine AtX.then ?_
  refine TC.seq ?_
  first | refine TC.condP rfl (fun c1 => ?_) (fun c1 => ?_) | refine TC.condN rfl (fun c1 => ?_) (fun c1 => ?_) | refine TC.condB rfl (fun c1 => ?_) (fun c1 => ?_) | refine TC.cond rfl (fun c1 => ?_) (fun c1 => ?_)
  · skip
    refine TC.skip ?_
    refine AtX.then ?_
    refine TC.seq ?_
    refine TC.block ?_
    refine TC.seq ?_
    refine TC.region ?_
    refine TL.val rfl rfl (Nat.le_of_ble_eq_true rfl) (Val.move rfl) ?_
    refine TL.val rfl rfl (Nat.le_of_ble_eq_true rfl) (Val.assign rfl) ?_
    refine TL.nil ?_
    refine AtX.then ?_
    refine TC.seq ?_
    refine TC.region ?_
    refine TL.val rfl rfl (Nat.le_of_ble_eq_true rfl) (Val.move rfl) ?_
    refine TL.nil ?_
    refine AtX.then ?_
    refine TC.block ?_
    refine TC.loop (ι := Nat) (fun i => [(0, .pointer (some ⟨b1, 0, none⟩)), (1, .int .i64 (k : Nat)), (3, .int .i64 (k : Nat)), (6, .int .i64 (i : Nat))]) (fun i => (b1, .cells (begR k i).toArray 182 (0, 0)) :: M) (fun i => i ≤ 8) (fun i => 8 - i) 0 ?_ (Sub.cons rfl (Sub.cons rfl (Sub.cons rfl (Sub.cons rfl (Sub.nil _))))) (fun _ h => h) ?_
    · exact Nat.zero_le _
    intro i hi
    refine TC.seq ?_
    refine TC.region ?_
    refine TL.val rfl rfl (Nat.le_of_ble_eq_true rfl) (Val.lss rfl rfl) ?_
    refine TL.nil ?_
    refine AtX.then ?_
    refine TC.seq ?_
    first | refine TC.condP rfl (fun c2 => ?_) (fun c2 => ?_) | refine TC.condN rfl (fun c2 => ?_) (fun c2 => ?_) | refine TC.condB rfl (fun c2 => ?_) (fun c2 => ?_) | refine TC.cond rfl (fun c2 => ?_) (fun c2 => ?_)
    · skip
      refine TC.skip ?_
      refine AtX.then ?_
      refine TC.seq ?_
      refine TC.block ?_
      refine TC.seq ?_
      refine TC.region ?_
      refine TL.val rfl rfl (Nat.le_of_ble_eq_true rfl) (Val.move rfl) ?_
      refine TL.val rfl rfl (Nat.le_of_ble_eq_true rfl) (Val.assign rfl) ?_
      refine TL.nil ?_
      refine AtX.then ?_
      have hk4 : k < 4 := by omega
      have hi8 : i < 8 := by omega
      refine TC.drawG [13] M mixed 14 ?_
      refine TG.tk false 0 1 rfl rfl rfl (Val.move rfl) ?_
      refine TG.tk false 1 3 rfl rfl rfl (Val.move rfl) ?_
      refine TG.tk false 2 7 rfl rfl rfl (Val.indexAddrA (i := k) (r := k) rfl rfl ar182 sz24 rfl hk4 (by omega)) ?_
      refine TG.tk false 3 15 rfl rfl rfl (Val.load 0 rfl ag24 rfl (v := .int .u64 (bw k i)) (by simpa using begR_nth hk4)) ?_
      refine TG.tk false 4 31 rfl rfl rfl (Val.shl rfl rfl (by omega) (r := IntKind.u64.wrap (bw k i * 2 ^ 8)) rfl) ?_
      refine TG.tk false 5 63 rfl rfl rfl (Val.move rfl) ?_
      refine TG.tk false 6 127 rfl rfl rfl (Val.mul rfl rfl (r := 8 * (k : Int)) (w_i64 (by omega) (by omega))) ?_
      refine TG.tk false 7 255 rfl rfl rfl (Val.move rfl) ?_
      refine TG.tk false 8 511 rfl rfl rfl (Val.add rfl rfl (r := ((8 * k + i : Nat) : Int)) (by rw [w_i64 (by omega) (by omega)]; push_cast; rfl)) ?_
      refine TG.tk false 9 1023 rfl rfl rfl (Val.indexL (l := txtB) (i := 8 * k + i) rfl rfl un9 rfl (by show 8 * k + i < 32; omega)) ?_
      refine TG.tk false 10 2047 rfl rfl rfl (Val.convI rfl iu5 in24 (w_u64 (by have := UInt8.toNat_lt (txtB.getD (8 * k + i) 0); omega) (by have := UInt8.toNat_lt (txtB.getD (8 * k + i) 0); omega))) ?_
      refine TG.tk false 11 4095 rfl rfl rfl (Val.or rfl rfl (r := bw k (i + 1)) rfl) ?_
      refine TG.tk false 12 8191 rfl rfl rfl (Val.indexAddrA (i := k) (r := k) rfl rfl ar182 sz24 rfl hk4 (by omega)) ?_
      refine TG.one 13 (by kernel_rfl) ?_
      refine TP.dz true 16383 none rfl rfl rfl rfl (Does.store (i := 0) rfl rfl rfl sz24 rfl rfl (by simp [begR]; omega) (begR_splice (i := i) hk4) rfl) ?_
      rintro _ _ ⟨rfl, rfl⟩
      refine roK ?_
      refine TG.done (by kernel_rfl) ?_ _
      refine AtX.blk ?_
      refine AtX.then ?_
      refine TC.region ?_
      first
        | refine TL.val rfl rfl (Nat.le_of_ble_eq_true rfl) (Val.add rfl rfl (w_i64 (by omega) (by omega))) ?_
        | refine TL.val rfl rfl (Nat.le_of_ble_eq_true rfl) (Val.add rfl rfl rfl) ?_
      refine TL.val rfl rfl (Nat.le_of_ble_eq_true rfl) (Val.move rfl) ?_
      refine TL.nil ?_
      refine AtX.round (i + 1) ?_ ?_ (Sub.cons rfl (Sub.cons rfl (Sub.cons rfl (Sub.cons rfl (Sub.nil _))))) (fun _ h => h)
      · omega
      · omega
    · skip
      refine TC.exit ?_
      refine AtX.seqX ?_
      refine AtX.seqX ?_
      refine AtX.hit ?_
      refine AtX.blk ?_
      refine AtX.then ?_
      have h8 : i = 8 := by omega
      subst h8
      refine TC.region ?_
      first
        | refine TL.val rfl rfl (Nat.le_of_ble_eq_true rfl) (Val.add rfl rfl (w_i64 (by omega) (by omega))) ?_
        | refine TL.val rfl rfl (Nat.le_of_ble_eq_true rfl) (Val.add rfl rfl rfl) ?_
      refine TL.val rfl rfl (Nat.le_of_ble_eq_true rfl) (Val.move rfl) ?_
      refine TL.nil ?_
      refine AtX.round (k + 1) ?_ ?_ (Sub.cons rfl (Sub.cons rfl (Sub.nil _))) (fun w h => by rw [← begR_next]; exact h)
      · omega
      · omega
  · skip
    refine TC.exit ?_
    refine AtX.seqX ?_
    refine AtX.seqX ?_
    refine AtX.hit ?_
    refine AtX.then ?_
    refine TC.env (E' := [(0, _)]) (Sub.cons rfl (Sub.nil _)) ?_
    refine TC.seq ?_
    have h4 : k = 4 := by omega
    subst h4
    rw [begR_end]
    refine TC.region ?_
    first
      | refine TL.val rfl rfl (Nat.le_of_ble_eq_true rfl) (Val.loadAgg 0 rfl ag182 sz182 rfl rfl rfl) ?_
      | refine TL.val rfl rfl (Nat.le_of_ble_eq_true rfl) (Val.loadAgg 1 rfl ag182 sz182 rfl rfl rfl) ?_
      | refine TL.val rfl rfl (Nat.le_of_ble_eq_true rfl) (Val.loadAgg 2 rfl ag182 sz182 rfl rfl rfl) ?_
      | refine TL.val rfl rfl (Nat.le_of_ble_eq_true rfl) (Val.loadAgg 3 rfl ag182 sz182 rfl rfl rfl) ?_
      | refine TL.val rfl rfl (Nat.le_of_ble_eq_true rfl) (Val.loadAgg 4 rfl ag182 sz182 rfl rfl rfl) ?_
      | refine TL.val rfl rfl (Nat.le_of_ble_eq_true rfl) (Val.loadAgg 5 rfl ag182 sz182 rfl rfl rfl) ?_
    first
      | refine TL.does none rfl rfl rfl (Does.store (i := 0) rfl rfl rfl sz182 rfl rfl (by first | exact Nat.le_of_ble_eq_true rfl | decide | omega) rfl rfl) ?_
      | refine TL.does none rfl rfl rfl (Does.store (i := 1) rfl rfl rfl sz182 rfl rfl (by first | exact Nat.le_of_ble_eq_true rfl | decide | omega) rfl rfl) ?_
      | refine TL.does none rfl rfl rfl (Does.store (i := 2) rfl rfl rfl sz182 rfl rfl (by first | exact Nat.le_of_ble_eq_true rfl | decide | omega) rfl rfl) ?_
      | refine TL.does none rfl rfl rfl (Does.store (i := 3) rfl rfl rfl sz182 rfl rfl (by first | exact Nat.le_of_ble_eq_true rfl | decide | omega) rfl rfl) ?_
      | refine TL.does none rfl rfl rfl (Does.store (i := 4) rfl rfl rfl sz182 rfl rfl (by first | exact Nat.le_of_ble_eq_true rfl | decide | omega) rfl rfl) ?_
      | refine TL.does none rfl rfl rfl (Does.store (i := 5) rfl rfl rfl sz182 rfl rfl (by first | exact Nat.le_of_ble_eq_true rfl | decide | omega) rfl rfl) ?_
    rintro _ _ ⟨rfl, rfl⟩
    refine TL.nil ?_
    refine AtX.then ?_
    refine TC.env (E' := [(0, _)]) (Sub.cons rfl (Sub.nil _)) ?_
    first
      | refine TC.ret1 (fn := Try.f114) (fun _ _ h => h) rfl (RV.agg (i := 0) rfl ag182 sz182 rfl rfl rfl) (M' := M) (by repeat (first | exact ro_refl | exact ro_pre | refine ro_tail ?_ | refine ro_app ?_)) ?_
      | refine TC.ret1 (fn := Try.f114) (fun _ _ h => h) rfl (RV.agg (i := 1) rfl ag182 sz182 rfl rfl rfl) (M' := M) (by repeat (first | exact ro_refl | exact ro_pre | refine ro_tail ?_ | refine ro_app ?_)) ?_
      | refine TC.ret1 (fn := Try.f114) (fun _ _ h => h) rfl (RV.agg (i := 2) rfl ag182 sz182 rfl rfl rfl) (M' := M) (by repeat (first | exact ro_refl | exact ro_pre | refine ro_tail ?_ | refine ro_app ?_)) ?_
      | refine TC.ret1 (fn := Try.f114) (fun _ _ h => h) rfl (RV.agg (i := 3) rfl ag182 sz182 rfl rfl rfl) (M' := M) (by repeat (first | exact ro_refl | exact ro_pre | refine ro_tail ?_ | refine ro_app ?_)) ?_
      | refine TC.ret1 (fn := Try.f114) (fun _ _ h => h) rfl (RV.agg (i := 4) rfl ag182 sz182 rfl rfl rfl) (M' := M) (by repeat (first | exact ro_refl | exact ro_pre | refine ro_tail ?_ | refine ro_app ?_)) ?_
      | refine TC.ret1 (fn := Try.f114) (fun _ _ h => h) rfl (RV.agg (i := 5) rfl ag182 sz182 rfl rfl rfl) (M' := M) (by repeat (first | exact ro_refl | exact ro_pre | refine ro_tail ?_ | refine ro_app ?_)) ?_
    exact ⟨rfl, rfl⟩

/-- quorumite/sip.New -/
theorem New_fn (k : K2) (M : Hp) : FnC Try.prog 102 #[.agg #[.int .u64 k.a, .int .u64 k.b]] M (fun v M' => ∃ b, v = .pointer (some ⟨b, 0, none⟩) ∧ M' = hobj b (keyW k.a k.b) none 0 0 0 :: M) := by
  refine FnC.intro Try.func102 rfl 27 rfl (by simp) (fun z => ?_)
  refine TC.env (E' := [(0, _)]) (Sub.cons rfl (Sub.nil _)) ?_
  refine TC.seq ?_
  refine TC.region ?_
  refine TL.does (some 1) rfl rfl rfl (Does.box rfl rfl) ?_
  rintro _ _ ⟨b1, rfl, rfl⟩
  refine TL.val rfl rfl (Nat.le_of_ble_eq_true rfl) (Val.assign rfl) ?_
  refine TL.nil ?_
  refine AtX.then ?_
  refine TC.env (E' := [(1, _), (2, _)]) (Sub.cons rfl (Sub.cons rfl (Sub.nil _))) ?_
  refine TC.seq ?_
  refine TC.region ?_
  refine TL.does (some 5) rfl rfl rfl (Does.callF go114 rfl (begin_fn _)) ?_
  rintro _ _ ⟨rfl, rfl⟩
  refine TL.val rfl rfl (Nat.le_of_ble_eq_true rfl) (Val.buildS pl185 ze185 rfl rfl) ?_
  refine TL.does (some 7) rfl rfl rfl (Does.box rfl rfl) ?_
  rintro _ _ ⟨b3, rfl, rfl⟩
  refine TL.val rfl rfl (Nat.le_of_ble_eq_true rfl) (Val.assign rfl) ?_
  refine TL.nil ?_
  refine AtX.then ?_
  refine TC.env (E' := [(1, _), (2, _), (3, _)]) (Sub.cons rfl (Sub.cons rfl (Sub.cons rfl (Sub.nil _)))) ?_
  refine TC.seq ?_
  refine TC.seq ?_
  refine TC.region ?_
  refine TL.val rfl rfl (Nat.le_of_ble_eq_true rfl) (Val.move rfl) ?_
  refine TL.nil ?_
  refine AtX.then ?_
  refine TC.env (E' := [(1, _), (2, _), (3, _), (8, _)]) (Sub.cons rfl (Sub.cons rfl (Sub.cons rfl (Sub.cons rfl (Sub.nil _))))) ?_
  refine TC.block ?_
  refine TC.loop (ι := Nat) (fun i => [(1, .pointer (some ⟨b1, 0, none⟩)), (3, .pointer (some ⟨b3, 0, none⟩)), (8, .int .i64 (i : Nat))]) (fun i => (b3, .cells (newR k i).toArray 185 (0, 0)) :: (b1, .cells #[.int .u64 k.a, .int .u64 k.b] 69 (0, 0)) :: M) (fun i => i ≤ 4) (fun i => 4 - i) 0 ?_ (Sub.cons rfl (Sub.cons rfl (Sub.cons rfl (Sub.nil _)))) (fun _ h => h) ?_
  · exact Nat.zero_le _
  intro i hi
  refine TC.seq ?_
  refine TC.region ?_
  refine TL.val rfl rfl (Nat.le_of_ble_eq_true rfl) (Val.lss rfl rfl) ?_
  refine TL.nil ?_
  refine AtX.then ?_
  refine TC.seq ?_
  first | refine TC.condP rfl (fun c1 => ?_) (fun c1 => ?_) | refine TC.condN rfl (fun c1 => ?_) (fun c1 => ?_) | refine TC.condB rfl (fun c1 => ?_) (fun c1 => ?_) | refine TC.cond rfl (fun c1 => ?_) (fun c1 => ?_)
  · skip
    refine TC.skip ?_
    refine AtX.then ?_
    refine TC.seq ?_
    refine TC.block ?_
    refine TC.seq ?_
    refine TC.region ?_
    refine TL.val rfl rfl (Nat.le_of_ble_eq_true rfl) (Val.move rfl) ?_
    refine TL.val rfl rfl (Nat.le_of_ble_eq_true rfl) (Val.assign rfl) ?_
    refine TL.nil ?_
    refine AtX.then ?_
    have hi4 : i < 4 := by omega
    refine TC.drawG [14] M mixed 15 ?_
    refine TG.tk false 0 1 rfl rfl rfl (Val.move rfl) ?_
    refine TG.tk false 1 3 rfl rfl rfl (Val.move rfl) ?_
    refine TG.tk false 2 7 rfl rfl rfl (Val.nilCheck rfl) ?_
    refine TG.tk false 3 15 rfl rfl rfl (Val.fieldAddr rfl fl185_0 sz182 rfl) ?_
    refine TG.tk false 4 31 rfl rfl rfl (Val.indexAddrA (i := i) (r := i) rfl rfl ar182 sz24 rfl hi4 (by omega)) ?_
    refine TG.tk false 5 63 rfl rfl rfl (Val.load 0 rfl ag24 rfl (v := .int .u64 (wj i)) (by simpa using newR_nth hi4)) ?_
    refine TG.tk false 6 127 rfl rfl rfl (Val.move rfl) ?_
    refine TG.tk false 7 255 rfl rfl rfl (Val.rem rfl rfl (by omega) (r := ((i % 2 : Nat) : Int)) (rem_nat i 2)) ?_
    refine TG.tk false 8 511 rfl rfl rfl (Val.indexAddrA (i := i % 2) (r := i % 2) rfl rfl ar69 sz24 rfl (by omega) (by omega)) ?_
    refine TG.tk false 9 1023 rfl rfl rfl (Val.load 1 rfl ag24 rfl (v := .int .u64 (kk k i)) (by simpa using kk_nth k i)) ?_
    refine TG.tk false 10 2047 rfl rfl rfl (Val.xor rfl rfl (r := xor64 (wj i) (kk k i)) rfl) ?_
    refine TG.tw false 11 4095 rfl rfl rfl (Val.nilCheck rfl) ?_
    refine TG.tw false 12 8191 rfl rfl rfl (Val.fieldAddr rfl fl185_0 sz182 rfl) ?_
    refine TG.tk false 13 16383 rfl rfl rfl (Val.indexAddrA (i := i) (r := i) rfl rfl ar182 sz24 rfl hi4 (by omega)) ?_
    refine TG.one 14 (by kernel_rfl) ?_
    refine TP.dz true 32767 none rfl rfl rfl rfl (Does.store (i := 0) rfl rfl rfl sz24 rfl rfl (by simp [newR]; omega) (newR_splice (k := k) hi4) rfl) ?_
    rintro _ _ ⟨rfl, rfl⟩
    refine roK ?_
    refine TG.done (by kernel_rfl) ?_ _
    refine AtX.blk ?_
    refine AtX.then ?_
    refine TC.region ?_
    first
      | refine TL.val rfl rfl (Nat.le_of_ble_eq_true rfl) (Val.add rfl rfl (w_i64 (by omega) (by omega))) ?_
      | refine TL.val rfl rfl (Nat.le_of_ble_eq_true rfl) (Val.add rfl rfl rfl) ?_
    refine TL.val rfl rfl (Nat.le_of_ble_eq_true rfl) (Val.move rfl) ?_
    refine TL.nil ?_
    refine AtX.round (i + 1) ?_ ?_ (Sub.cons rfl (Sub.cons rfl (Sub.cons rfl (Sub.nil _)))) (fun _ h => h)
    · omega
    · omega
  · skip
    refine TC.exit ?_
    refine AtX.seqX ?_
    refine AtX.seqX ?_
    refine AtX.hit ?_
    refine AtX.then ?_
    refine TC.env (E' := [(3, _)]) (Sub.cons rfl (Sub.nil _)) ?_
    refine TC.seq ?_
    have h4 : i = 4 := by omega
    subst h4
    rw [newR_end]
    refine TC.region ?_
    refine TL.val rfl rfl (Nat.le_of_ble_eq_true rfl) (Val.move rfl) ?_
    refine TL.val rfl rfl (Nat.le_of_ble_eq_true rfl) (Val.assign rfl) ?_
    refine TL.nil ?_
    refine AtX.then ?_
    refine TC.env (E' := [(2, _)]) (Sub.cons rfl (Sub.nil _)) ?_
    refine TC.ret1 (fn := Try.f102) (fun _ _ h => h) rfl (RV.tmp rfl) (M' := hobj b3 (keyW k.a k.b) none 0 0 0 :: M) (fun w h => ro_del 1 rfl w h) ?_
    exact ⟨b3, rfl, rfl⟩

end Go.Proofs.Ytphoapajlcaoeaa
