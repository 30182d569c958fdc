/- walks -/
import Derived.Test.YtbjjjapdioegpaaH1
import Derived.Test.YtbjjjapdioegpaaES18d
import Derived.Test.YtbjjjapdioegpaaE9c
import Derived.Test.YtbjjjapdioegpaaE9d
set_option linter.unusedVariables false
set_option linter.unusedSimpArgs false
set_option maxRecDepth 100000
set_option maxHeartbeats 4000000
namespace Go.Proofs.Ytbjjjapdioegpaa
open Go Go.X
/-- quorumite/quorumiteref17.Mark -/
theorem refMark_fn (p : Int) (M : Hp) : FnC Try.prog 18 #[.int .u32 p] M (fun v M' => v = .int .u8 (markB p).toNat ∧ M = M') := by
  refine FnC.intro Try.func18 rfl 7 rfl (by simp) (fun z => ?_)
  refine TC.env (E' := [(0, _)]) (Sub.cons rfl (Sub.nil _)) ?_
  refine TC.seq ?_
  refine TC.region ?_
  refine TL.val rfl rfl (Nat.le_of_ble_eq_true rfl) (Val.assign rfl) ?_
  refine TL.nil ?_
  refine AtX.then ?_
  refine TC.seq ?_
  refine TC.seq ?_
  refine TC.region ?_
  refine TL.val rfl rfl (Nat.le_of_ble_eq_true rfl) (Val.move rfl) ?_
  refine TL.val rfl rfl (Nat.le_of_ble_eq_true rfl) (Val.gtr rfl rfl) ?_
  refine TL.nil ?_
  refine AtX.then ?_
  refine TC.env (E' := [(0, _), (2, _), (4, _)]) (Sub.cons rfl (Sub.cons rfl (Sub.cons rfl (Sub.nil _)))) ?_
  first | refine TC.condP rfl (fun c1 => ?_) (fun c1 => ?_) | refine TC.condN rfl (fun c1 => ?_) (fun c1 => ?_) | refine TC.condB rfl (fun c1 => ?_) (fun c1 => ?_) | refine TC.cond rfl (fun c1 => ?_) (fun c1 => ?_)
  · skip
    refine TC.env (E' := [(0, _), (2, _)]) (Sub.cons rfl (Sub.cons rfl (Sub.nil _))) ?_
    refine TC.seq ?_
    refine TC.region ?_
    refine TL.val rfl rfl (Nat.le_of_ble_eq_true rfl) (Val.assign rfl) ?_
    refine TL.nil ?_
    refine AtX.then ?_
    refine TC.env (E' := [(0, _), (2, _)]) (Sub.cons rfl (Sub.cons rfl (Sub.nil _))) ?_
    refine TC.ret1 (fn := Try.f18) (fun _ _ h => h) rfl (RV.tmp rfl) (fun _ h => h) ?_
    refine ⟨?_, rfl⟩; unfold markB; first | rw [if_pos (by omega)]; rfl | rw [if_neg (by omega)]
  · skip
    refine TC.env (E' := [(0, _), (2, _)]) (Sub.cons rfl (Sub.cons rfl (Sub.nil _))) ?_
    refine TC.skip ?_
    refine AtX.then ?_
    refine TC.env (E' := [(0, _), (2, _)]) (Sub.cons rfl (Sub.cons rfl (Sub.nil _))) ?_
    refine TC.seq ?_
    refine TC.region ?_
    refine TL.val rfl rfl (Nat.le_of_ble_eq_true rfl) (Val.move rfl) ?_
    refine TL.val rfl rfl (Nat.le_of_ble_eq_true rfl) (Val.convI rfl iu22 in5 w_b8) ?_
    refine TL.val rfl rfl (Nat.le_of_ble_eq_true rfl) (Val.assign rfl) ?_
    refine TL.nil ?_
    refine AtX.then ?_
    refine TC.env (E' := [(2, _)]) (Sub.cons rfl (Sub.nil _)) ?_
    refine TC.ret1 (fn := Try.f18) (fun _ _ h => h) rfl (RV.tmp rfl) (fun _ h => h) ?_
    refine ⟨?_, rfl⟩; unfold markB; first | rw [if_pos (by omega)]; rfl | rw [if_neg (by omega)]

/-- quorumite/quorumiteref17.Sum -/
theorem refSum_fn (l : List UInt8) (M : Hp) (hl : l.length ≤ 1000) : FnC Try.prog 20 #[.string (ofL l)] M (fun v M' => v = .int .u32 (sum18 l : Nat) ∧ M = M') := by
  refine FnC.intro Try.func20 rfl 23 rfl (by simp) (fun z => ?_)
  refine TC.env (E' := [(0, _)]) (Sub.cons rfl (Sub.nil _)) ?_
  refine TC.seq ?_
  refine TC.region ?_
  refine TL.val rfl rfl (Nat.le_of_ble_eq_true rfl) (Val.assign rfl) ?_
  refine TL.nil ?_
  refine AtX.then ?_
  refine TC.seq ?_
  refine TC.region ?_
  refine TL.val rfl rfl (Nat.le_of_ble_eq_true rfl) (Val.assign rfl) ?_
  refine TL.nil ?_
  refine AtX.then ?_
  refine TC.seq ?_
  refine TC.seq ?_
  refine TC.region ?_
  refine TL.val rfl rfl (Nat.le_of_ble_eq_true rfl) (Val.assign rfl) ?_
  refine TL.nil ?_
  refine AtX.then ?_
  refine TC.block ?_
  refine TC.loop (ι := Nat) (fun k => [(0, .string (ofL l)), (3, .int .u32 (sumTo l k : Nat)), (4, .int .i64 (k : Nat))]) (fun _ => M) (fun k => k ≤ l.length) (fun k => l.length - k) 0 ?_ (Sub.cons rfl (Sub.cons rfl (Sub.cons rfl (Sub.nil _)))) (fun _ h => h) ?_
  · exact Nat.zero_le _
  intro k hk
  refine TC.seq ?_
  refine TC.seq ?_
  refine TC.region ?_
  refine TL.val rfl rfl (Nat.le_of_ble_eq_true rfl) (Val.move rfl) ?_
  refine TL.val rfl rfl (Nat.le_of_ble_eq_true rfl) (Val.move rfl) ?_
  first
    | refine TL.val rfl rfl (Nat.le_of_ble_eq_true rfl) (Val.lenL rfl rfl un9) ?_
    | refine TL.val rfl rfl (Nat.le_of_ble_eq_true rfl) (Val.lenStr rfl rfl un9) ?_
  refine TL.val rfl rfl (Nat.le_of_ble_eq_true rfl) (Val.lss rfl rfl) ?_
  refine TL.nil ?_
  refine AtX.then ?_
  first | refine TC.condP rfl (fun c1 => ?_) (fun c1 => ?_) | refine TC.condN rfl (fun c1 => ?_) (fun c1 => ?_) | refine TC.condB rfl (fun c1 => ?_) (fun c1 => ?_) | refine TC.cond rfl (fun c1 => ?_) (fun c1 => ?_)
  · skip
    refine TC.skip ?_
    refine AtX.then ?_
    refine TC.seq ?_
    refine TC.block ?_
    have hlt : k < l.length := by omega
    have hB := sumTo_bd l k (by omega)
    have hT := term_bd (l.getD k 0) k (by omega)
    have hc : (l.getD k 0).toNat < 256 := UInt8.toNat_lt _
    have hT2 : ((k : Int) + 1) * (((l.getD k 0).toNat : Int) + 1) = (((k + 1) * ((l.getD k 0).toNat + 1) : Nat) : Int) := by push_cast; rfl
    refine TC.region ?_
    refine TL.val rfl rfl (Nat.le_of_ble_eq_true rfl) (Val.move rfl) ?_
    refine TL.val rfl rfl (Nat.le_of_ble_eq_true rfl) (Val.move rfl) ?_
    first
      | refine TL.val rfl rfl (Nat.le_of_ble_eq_true rfl) (Val.add rfl rfl (w_i64 (by omega) (by omega))) ?_
      | refine TL.val rfl rfl (Nat.le_of_ble_eq_true rfl) (Val.add rfl rfl rfl) ?_
    first
      | refine TL.val rfl rfl (Nat.le_of_ble_eq_true rfl) (Val.convI rfl iu3 in22 (w_u32 (by omega) (by omega))) ?_
      | refine TL.val rfl rfl (Nat.le_of_ble_eq_true rfl) (Val.convI rfl iu3 in22 rfl) ?_
    refine TL.val rfl rfl (Nat.le_of_ble_eq_true rfl) (Val.move rfl) ?_
    refine TL.val rfl rfl (Nat.le_of_ble_eq_true rfl) (Val.move rfl) ?_
    refine TL.val rfl rfl (Nat.le_of_ble_eq_true rfl) (Val.indexL (i := k) rfl rfl un9 rfl hlt) ?_
    first
      | refine TL.val rfl rfl (Nat.le_of_ble_eq_true rfl) (Val.convI rfl iu5 in22 (w_u32 (by omega) (by omega))) ?_
      | refine TL.val rfl rfl (Nat.le_of_ble_eq_true rfl) (Val.convI rfl iu5 in22 rfl) ?_
    first
      | refine TL.val rfl rfl (Nat.le_of_ble_eq_true rfl) (Val.add rfl rfl (w_u32 (by omega) (by omega))) ?_
      | refine TL.val rfl rfl (Nat.le_of_ble_eq_true rfl) (Val.add rfl rfl rfl) ?_
    refine TL.val rfl rfl (Nat.le_of_ble_eq_true rfl) (Val.mul rfl rfl (w_u32 (by omega) (by omega))) ?_
    refine TL.val rfl rfl (Nat.le_of_ble_eq_true rfl) (Val.add rfl rfl (w_u32 (by omega) (by omega))) ?_
    refine TL.val rfl rfl (Nat.le_of_ble_eq_true rfl) (Val.assign rfl) ?_
    refine TL.nil ?_
    refine AtX.blk ?_
    refine AtX.then ?_
    refine TC.region ?_
    refine TL.val rfl rfl (Nat.le_of_ble_eq_true rfl) (Val.move rfl) ?_
    first
      | refine TL.val rfl rfl (Nat.le_of_ble_eq_true rfl) (Val.add rfl rfl (w_i64 (by omega) (by omega))) ?_
      | refine TL.val rfl rfl (Nat.le_of_ble_eq_true rfl) (Val.add rfl rfl rfl) ?_
    refine TL.val rfl rfl (Nat.le_of_ble_eq_true rfl) (Val.assign rfl) ?_
    refine TL.nil ?_
    refine AtX.round (k + 1) ?_ ?_ (Sub.cons rfl (Sub.cons rfl (Sub.cons rfl (Sub.nil _)))) (fun _ h => h)
    · omega
    · omega
  · skip
    refine TC.exit ?_
    refine AtX.seqX ?_
    refine AtX.seqX ?_
    refine AtX.hit ?_
    refine AtX.then ?_
    refine TC.env (E' := [(3, _)]) (Sub.cons rfl (Sub.nil _)) ?_
    refine TC.seq ?_
    refine TC.region ?_
    refine TL.val rfl rfl (Nat.le_of_ble_eq_true rfl) (Val.move rfl) ?_
    refine TL.val rfl rfl (Nat.le_of_ble_eq_true rfl) (Val.assign rfl) ?_
    refine TL.nil ?_
    refine AtX.then ?_
    refine TC.env (E' := [(2, _)]) (Sub.cons rfl (Sub.nil _)) ?_
    refine TC.ret1 (fn := Try.f20) (fun _ _ h => h) rfl (RV.tmp rfl) (fun _ h => h) ?_
    refine ⟨?_, rfl⟩
    have : k = l.length := by omega
    subst this; rfl

/-- quorumite/quorumiteref1.Put -/
theorem refPut_fn (n : Int) (M : Hp) : FnC Try.prog 23 #[.int .u64 n] M (fun v M' => v = .string (ofL (put8 n)) ∧ M = M') := by
  refine FnC.intro Try.func23 rfl 21 rfl (by simp) (fun z => ?_)
  refine TC.env (E' := [(0, _)]) (Sub.cons rfl (Sub.nil _)) ?_
  refine TC.seq ?_
  refine TC.region ?_
  refine TL.val rfl rfl (Nat.le_of_ble_eq_true rfl) (Val.assign rfl) ?_
  refine TL.nil ?_
  refine AtX.then ?_
  refine TC.seq ?_
  refine TC.region ?_
  refine TL.does (some 5) rfl rfl rfl (Does.makeSlice (n := 8) (c := 8) rfl rfl sl23 sz5 by5 ze5 rfl rfl rfl (by omega) (by omega) (by omega)) ?_
  rintro _ _ ⟨b5, rfl, rfl⟩
  refine TL.val rfl rfl (Nat.le_of_ble_eq_true rfl) (Val.assign rfl) ?_
  refine TL.nil ?_
  refine AtX.then ?_
  refine TC.env (E' := [(0, _), (2, _), (3, _)]) (Sub.cons rfl (Sub.cons rfl (Sub.cons rfl (Sub.nil _)))) ?_
  refine TC.seq ?_
  refine TC.seq ?_
  refine TC.region ?_
  refine TL.val rfl rfl (Nat.le_of_ble_eq_true rfl) (Val.assign rfl) ?_
  refine TL.nil ?_
  refine AtX.then ?_
  refine TC.env (E' := [(0, _), (2, _), (3, _), (4, _)]) (Sub.cons rfl (Sub.cons rfl (Sub.cons rfl (Sub.cons rfl (Sub.nil _))))) ?_
  refine TC.block ?_
  refine TC.loop (ι := Nat) (fun k => [(0, .int .u64 n), (3, .slice (some ⟨b5, 0, none⟩) 8 8), (4, .int .i64 (k : Nat))]) (fun k => (b5, row 5 (bv (pb n k ++ List.replicate (8 - k) 0) ++ [])) :: M) (fun k => k ≤ 8) (fun k => 8 - k) 0 ?_ (Sub.cons rfl (Sub.cons rfl (Sub.cons rfl (Sub.nil _)))) (fun w h => by simpa [pb, zrep_bytes, Value.cells] using h) ?_
  · exact Nat.zero_le _
  intro k hk
  refine TC.seq ?_
  refine TC.seq ?_
  refine TC.region ?_
  refine TL.val rfl rfl (Nat.le_of_ble_eq_true rfl) (Val.move rfl) ?_
  refine TL.val rfl rfl (Nat.le_of_ble_eq_true rfl) (Val.lss rfl rfl) ?_
  refine TL.nil ?_
  refine AtX.then ?_
  first | refine TC.condP rfl (fun c1 => ?_) (fun c1 => ?_) | refine TC.condN rfl (fun c1 => ?_) (fun c1 => ?_) | refine TC.condB rfl (fun c1 => ?_) (fun c1 => ?_) | refine TC.cond rfl (fun c1 => ?_) (fun c1 => ?_)
  · skip
    refine TC.skip ?_
    refine AtX.then ?_
    refine TC.seq ?_
    refine TC.block ?_
    refine TC.region ?_
    refine TL.val rfl rfl (Nat.le_of_ble_eq_true rfl) (Val.move rfl) ?_
    refine TL.val rfl rfl (Nat.le_of_ble_eq_true rfl) (Val.move rfl) ?_
    refine TL.val rfl rfl (Nat.le_of_ble_eq_true rfl) (Val.move rfl) ?_
    refine TL.val rfl rfl (Nat.le_of_ble_eq_true rfl) (Val.move rfl) ?_
    first
      | refine TL.val rfl rfl (Nat.le_of_ble_eq_true rfl) (Val.mul rfl rfl (w_i64 (by omega) (by omega))) ?_
      | refine TL.val rfl rfl (Nat.le_of_ble_eq_true rfl) (Val.mul rfl rfl rfl) ?_
    first
      | refine TL.val rfl rfl (Nat.le_of_ble_eq_true rfl) (Val.convI rfl iu3 in46 (w_u64 (by omega) (by omega))) ?_
      | refine TL.val rfl rfl (Nat.le_of_ble_eq_true rfl) (Val.convI rfl iu3 in46 rfl) ?_
    refine TL.val rfl rfl (Nat.le_of_ble_eq_true rfl) (Val.shr rfl rfl (by omega) (shr_val (by omega))) ?_
    refine TL.val rfl rfl (Nat.le_of_ble_eq_true rfl) (Val.convI rfl iu55 in5 w_b8) ?_
    refine TL.val rfl rfl (Nat.le_of_ble_eq_true rfl) (Val.indexAddr (i := k) rfl rfl sl23 sz5 rfl (by omega) rfl) ?_
    refine TL.does none rfl rfl rfl (Does.storeB (c := byteAt n k) rfl rfl (i := 0) (j := k) rfl (by omega) (by simp; omega) sz5) ?_
    rintro _ _ ⟨rfl, rfl⟩
    refine TL.nil ?_
    refine AtX.blk ?_
    refine AtX.then ?_
    refine TC.region ?_
    refine TL.val rfl rfl (Nat.le_of_ble_eq_true rfl) (Val.move rfl) ?_
    first
      | refine TL.val rfl rfl (Nat.le_of_ble_eq_true rfl) (Val.add rfl rfl (w_i64 (by omega) (by omega))) ?_
      | refine TL.val rfl rfl (Nat.le_of_ble_eq_true rfl) (Val.add rfl rfl rfl) ?_
    refine TL.val rfl rfl (Nat.le_of_ble_eq_true rfl) (Val.assign rfl) ?_
    refine TL.nil ?_
    refine AtX.round (k + 1) ?_ ?_ (Sub.cons rfl (Sub.cons rfl (Sub.cons rfl (Sub.nil _)))) (fun w h => by rw [← pb_set (by omega)]; exact h)
    · omega
    · omega
  · skip
    refine TC.exit ?_
    refine AtX.seqX ?_
    refine AtX.seqX ?_
    refine AtX.hit ?_
    refine AtX.then ?_
    refine TC.env (E' := [(3, _)]) (Sub.cons rfl (Sub.nil _)) ?_
    refine TC.seq ?_
    have h8 : k = 8 := by omega
    subst h8
    have e8 : pb n 8 ++ List.replicate (8 - 8) 0 = put8 n := by simp [put8]
    rw [e8]
    refine TC.region ?_
    refine TL.val rfl rfl (Nat.le_of_ble_eq_true rfl) (Val.move rfl) ?_
    refine TL.val rfl rfl (Nat.le_of_ble_eq_true rfl) (Val.b2s (l := put8 n) rfl us23 ui5 un9 (by simp) (rd_all (i := 0) rfl)) ?_
    refine TL.val rfl rfl (Nat.le_of_ble_eq_true rfl) (Val.assign rfl) ?_
    refine TL.nil ?_
    refine AtX.then ?_
    refine TC.env (E' := [(2, _)]) (Sub.cons rfl (Sub.nil _)) ?_
    refine TC.ret1 (fn := Try.f23) (fun _ _ h => h) rfl (RV.tmp rfl) (ro_tail ro_refl) ?_
    exact ⟨rfl, rfl⟩

/-- quorumite/quorumiteref1.Get -/
theorem refGet_fn (l : List UInt8) (o : Nat) (M : Hp) (hl : l.length ≤ 1000) (ho : o + 8 ≤ l.length) : FnC Try.prog 27 #[.string (ofL l), .int .i64 o] M (fun v M' => v = .tuple #[.int .u64 (get8 l o : Nat), .int .i64 0] ∧ M = M') := by
  refine FnC.intro Try.func27 rfl 40 rfl (by simp) (fun z => ?_)
  refine TC.env (E' := [(0, _), (1, _)]) (Sub.cons rfl (Sub.cons rfl (Sub.nil _))) ?_
  refine TC.seq ?_
  refine TC.region ?_
  refine TL.val rfl rfl (Nat.le_of_ble_eq_true rfl) (Val.assign rfl) ?_
  refine TL.val rfl rfl (Nat.le_of_ble_eq_true rfl) (Val.assign rfl) ?_
  refine TL.nil ?_
  refine AtX.then ?_
  refine TC.seq ?_
  refine TC.seq ?_
  refine TC.region ?_
  refine TL.val rfl rfl (Nat.le_of_ble_eq_true rfl) (Val.move rfl) ?_
  refine TL.val rfl rfl (Nat.le_of_ble_eq_true rfl) (Val.lss rfl rfl) ?_
  refine TL.val rfl rfl (Nat.le_of_ble_eq_true rfl) (Val.move rfl) ?_
  refine TL.gen (fun g1 hg1 => ?_)
  refine TL.gval rfl rfl (Nat.le_of_ble_eq_true rfl) rfl (Nat.le_of_ble_eq_true rfl) rfl (fun hg => by subst hg; exact (Val.move rfl)) ?_
  refine TL.gval rfl rfl (Nat.le_of_ble_eq_true rfl) rfl (Nat.le_of_ble_eq_true rfl) rfl (fun hg => by subst hg; exact (Val.move rfl)) ?_
  first
    | refine TL.gval rfl rfl (Nat.le_of_ble_eq_true rfl) rfl (Nat.le_of_ble_eq_true rfl) rfl (fun hg => by subst hg; exact (Val.lenL rfl rfl un9)) ?_
    | refine TL.gval rfl rfl (Nat.le_of_ble_eq_true rfl) rfl (Nat.le_of_ble_eq_true rfl) rfl (fun hg => by subst hg; exact (Val.lenStr rfl rfl un9)) ?_
  refine TL.gval rfl rfl (Nat.le_of_ble_eq_true rfl) rfl (Nat.le_of_ble_eq_true rfl) rfl (fun hg => by subst hg; exact (Val.gtr rfl rfl)) ?_
  first
    | refine TL.val rfl rfl (Nat.le_of_ble_eq_true rfl) (Val.pickAnd rfl rfl rfl) ?_
    | refine TL.val rfl rfl (Nat.le_of_ble_eq_true rfl) (Val.pickOr rfl rfl rfl) ?_
    | refine TL.val rfl rfl (Nat.le_of_ble_eq_true rfl) (Val.pick rfl rfl rfl) ?_
  refine TL.val rfl rfl (Nat.le_of_ble_eq_true rfl) (Val.move rfl) ?_
  refine TL.gen (fun g2 hg2 => ?_)
  refine TL.gval rfl rfl (Nat.le_of_ble_eq_true rfl) rfl (Nat.le_of_ble_eq_true rfl) rfl (fun hg => by subst hg; exact (Val.move rfl)) ?_
  first
    | refine TL.gval rfl rfl (Nat.le_of_ble_eq_true rfl) rfl (Nat.le_of_ble_eq_true rfl) rfl (fun hg => by subst hg; exact (Val.lenL rfl rfl un9)) ?_
    | refine TL.gval rfl rfl (Nat.le_of_ble_eq_true rfl) rfl (Nat.le_of_ble_eq_true rfl) rfl (fun hg => by subst hg; exact (Val.lenStr rfl rfl un9)) ?_
  refine TL.gval rfl rfl (Nat.le_of_ble_eq_true rfl) rfl (Nat.le_of_ble_eq_true rfl) rfl (fun hg => by subst hg; exact (Val.move rfl)) ?_
  first
    | refine TL.gval rfl rfl (Nat.le_of_ble_eq_true rfl) rfl (Nat.le_of_ble_eq_true rfl) rfl (fun hg => by subst hg; exact (Val.sub rfl rfl (w_i64 (by omega) (by omega)))) ?_
    | refine TL.gval rfl rfl (Nat.le_of_ble_eq_true rfl) rfl (Nat.le_of_ble_eq_true rfl) rfl (fun hg => by subst hg; exact (Val.sub rfl rfl rfl)) ?_
  refine TL.gval rfl rfl (Nat.le_of_ble_eq_true rfl) rfl (Nat.le_of_ble_eq_true rfl) rfl (fun hg => by subst hg; exact (Val.lss rfl rfl)) ?_
  first
    | refine TL.val rfl rfl (Nat.le_of_ble_eq_true rfl) (Val.pickAnd rfl rfl rfl) ?_
    | refine TL.val rfl rfl (Nat.le_of_ble_eq_true rfl) (Val.pickOr rfl rfl rfl) ?_
    | refine TL.val rfl rfl (Nat.le_of_ble_eq_true rfl) (Val.pick rfl rfl rfl) ?_
  refine TL.nil ?_
  refine AtX.then ?_
  refine TC.env (E' := [(0, _), (1, _), (4, _), (5, _), (22, _)]) (Sub.cons rfl (Sub.cons rfl (Sub.cons rfl (Sub.cons rfl (Sub.cons rfl (Sub.nil _)))))) ?_
  first | refine TC.condP rfl (fun c1 => ?_) (fun c1 => ?_) | refine TC.condN rfl (fun c1 => ?_) (fun c1 => ?_) | refine TC.condB rfl (fun c1 => ?_) (fun c1 => ?_) | refine TC.cond rfl (fun c1 => ?_) (fun c1 => ?_)
  · skip
    (exfalso; grind)
  · skip
    refine TC.env (E' := [(0, _), (1, _), (4, _), (5, _)]) (Sub.cons rfl (Sub.cons rfl (Sub.cons rfl (Sub.cons rfl (Sub.nil _))))) ?_
    refine TC.skip ?_
    refine AtX.then ?_
    refine TC.env (E' := [(0, _), (1, _), (4, _), (5, _)]) (Sub.cons rfl (Sub.cons rfl (Sub.cons rfl (Sub.cons rfl (Sub.nil _))))) ?_
    refine TC.seq ?_
    refine TC.region ?_
    refine TL.val rfl rfl (Nat.le_of_ble_eq_true rfl) (Val.assign rfl) ?_
    refine TL.nil ?_
    refine AtX.then ?_
    refine TC.env (E' := [(0, _), (1, _), (4, _), (5, _), (6, _)]) (Sub.cons rfl (Sub.cons rfl (Sub.cons rfl (Sub.cons rfl (Sub.cons rfl (Sub.nil _)))))) ?_
    refine TC.seq ?_
    refine TC.seq ?_
    refine TC.region ?_
    refine TL.val rfl rfl (Nat.le_of_ble_eq_true rfl) (Val.assign rfl) ?_
    refine TL.nil ?_
    refine AtX.then ?_
    refine TC.env (E' := [(0, _), (1, _), (4, _), (5, _), (6, _), (7, _)]) (Sub.cons rfl (Sub.cons rfl (Sub.cons rfl (Sub.cons rfl (Sub.cons rfl (Sub.cons rfl (Sub.nil _))))))) ?_
    refine TC.block ?_
    refine TC.loop (ι := Nat) (fun k => [(0, .string (ofL l)), (1, .int .i64 o), (6, .int .u64 (getTo l o k : Nat)), (7, .int .i64 (k : Nat))]) (fun _ => M) (fun k => k ≤ 8) (fun k => 8 - k) 0 ?_ (Sub.cons rfl (Sub.cons rfl (Sub.cons rfl (Sub.cons rfl (Sub.nil _))))) (fun _ h => h) ?_
    · exact Nat.zero_le _
    intro k hk
    refine TC.seq ?_
    refine TC.seq ?_
    refine TC.region ?_
    refine TL.val rfl rfl (Nat.le_of_ble_eq_true rfl) (Val.move rfl) ?_
    refine TL.val rfl rfl (Nat.le_of_ble_eq_true rfl) (Val.lss rfl rfl) ?_
    refine TL.nil ?_
    refine AtX.then ?_
    first | refine TC.condP rfl (fun c2 => ?_) (fun c2 => ?_) | refine TC.condN rfl (fun c2 => ?_) (fun c2 => ?_) | refine TC.condB rfl (fun c2 => ?_) (fun c2 => ?_) | refine TC.cond rfl (fun c2 => ?_) (fun c2 => ?_)
    · skip
      refine TC.skip ?_
      refine AtX.then ?_
      refine TC.seq ?_
      refine TC.block ?_
      have hlt : k < 8 := by omega
      have hB := getTo_lt l o k
      have hc : (l.getD (o + k) 0).toNat < 256 := UInt8.toNat_lt _
      refine TC.region ?_
      refine TL.val rfl rfl (Nat.le_of_ble_eq_true rfl) (Val.move rfl) ?_
      refine TL.val rfl rfl (Nat.le_of_ble_eq_true rfl) (Val.move rfl) ?_
      refine TL.val rfl rfl (Nat.le_of_ble_eq_true rfl) (Val.move rfl) ?_
      refine TL.val rfl rfl (Nat.le_of_ble_eq_true rfl) (Val.move rfl) ?_
      first
        | refine TL.val rfl rfl (Nat.le_of_ble_eq_true rfl) (Val.add rfl rfl (w_i64 (by omega) (by omega))) ?_
        | refine TL.val rfl rfl (Nat.le_of_ble_eq_true rfl) (Val.add rfl rfl rfl) ?_
      refine TL.val rfl rfl (Nat.le_of_ble_eq_true rfl) (Val.indexL (i := o + k) rfl rfl un9 (by push_cast; rfl) (by omega)) ?_
      first
        | refine TL.val rfl rfl (Nat.le_of_ble_eq_true rfl) (Val.convI rfl iu5 in55 (w_u64 (by omega) (by omega))) ?_
        | refine TL.val rfl rfl (Nat.le_of_ble_eq_true rfl) (Val.convI rfl iu5 in55 rfl) ?_
      refine TL.val rfl rfl (Nat.le_of_ble_eq_true rfl) (Val.move rfl) ?_
      first
        | refine TL.val rfl rfl (Nat.le_of_ble_eq_true rfl) (Val.mul rfl rfl (w_i64 (by omega) (by omega))) ?_
        | refine TL.val rfl rfl (Nat.le_of_ble_eq_true rfl) (Val.mul rfl rfl rfl) ?_
      first
        | refine TL.val rfl rfl (Nat.le_of_ble_eq_true rfl) (Val.convI rfl iu3 in46 (w_u64 (by omega) (by omega))) ?_
        | refine TL.val rfl rfl (Nat.le_of_ble_eq_true rfl) (Val.convI rfl iu3 in46 rfl) ?_
      refine TL.val rfl rfl (Nat.le_of_ble_eq_true rfl) (Val.shl rfl rfl (by omega) (shl_val hlt hc)) ?_
      refine TL.val rfl rfl (Nat.le_of_ble_eq_true rfl) (Val.or rfl rfl (or_add hlt hB hc)) ?_
      refine TL.val rfl rfl (Nat.le_of_ble_eq_true rfl) (Val.assign rfl) ?_
      refine TL.nil ?_
      refine AtX.blk ?_
      refine AtX.then ?_
      refine TC.region ?_
      refine TL.val rfl rfl (Nat.le_of_ble_eq_true rfl) (Val.move rfl) ?_
      first
        | refine TL.val rfl rfl (Nat.le_of_ble_eq_true rfl) (Val.add rfl rfl (w_i64 (by omega) (by omega))) ?_
        | refine TL.val rfl rfl (Nat.le_of_ble_eq_true rfl) (Val.add rfl rfl rfl) ?_
      refine TL.val rfl rfl (Nat.le_of_ble_eq_true rfl) (Val.assign rfl) ?_
      refine TL.nil ?_
      refine AtX.round (k + 1) ?_ ?_ (Sub.cons rfl (Sub.cons rfl (Sub.cons rfl (Sub.cons rfl (Sub.nil _))))) (fun _ h => h)
      · omega
      · omega
    · skip
      refine TC.exit ?_
      refine AtX.seqX ?_
      refine AtX.seqX ?_
      refine AtX.hit ?_
      refine AtX.then ?_
      refine TC.env (E' := [(6, _)]) (Sub.cons rfl (Sub.nil _)) ?_
      refine TC.seq ?_
      refine TC.region ?_
      refine TL.val rfl rfl (Nat.le_of_ble_eq_true rfl) (Val.move rfl) ?_
      refine TL.val rfl rfl (Nat.le_of_ble_eq_true rfl) (Val.assign rfl) ?_
      refine TL.val rfl rfl (Nat.le_of_ble_eq_true rfl) (Val.assign rfl) ?_
      refine TL.nil ?_
      refine AtX.then ?_
      refine TC.env (E' := [(4, _), (5, _)]) (Sub.cons rfl (Sub.cons rfl (Sub.nil _))) ?_
      refine TC.ret2 (fn := Try.f27) (fun _ _ h => h) rfl (RV.tmp rfl) (RV.tmp rfl) (fun _ h => h) ?_
      refine ⟨?_, rfl⟩
      have : k = 8 := by omega
      subst this; rfl

/-- quorumite/quorumiteref17.MayCell -/
theorem MayCell_fn (p pl kd : Int) (d : List UInt8) (M : Hp) : FnC Try.prog 15 #[.agg #[.int .u32 p, .int .i64 pl, .int .i64 kd, .string (ofL d)]] M (fun v M' => v = .bool (mayC p pl kd d.length) ∧ M = M') := by
  refine FnC.intro Try.func15 rfl 37 rfl (by simp) (fun z => ?_)
  refine TC.env (E' := [(0, _)]) (Sub.cons rfl (Sub.nil _)) ?_
  refine TC.seq ?_
  refine TC.region ?_
  refine TL.does (some 1) rfl rfl rfl (Does.box rfl rfl) ?_
  rintro _ _ ⟨b1, rfl, rfl⟩
  refine TL.val rfl rfl (Nat.le_of_ble_eq_true rfl) (Val.assign rfl) ?_
  refine TL.nil ?_
  refine AtX.then ?_
  refine TC.env (E' := [(1, _), (2, _)]) (Sub.cons rfl (Sub.cons rfl (Sub.nil _))) ?_
  refine TC.seq ?_
  refine TC.region ?_
  refine TL.val rfl rfl (Nat.le_of_ble_eq_true rfl) (Val.fieldAddr rfl fl28_0 sz22 rfl) ?_
  first
    | refine TL.val rfl rfl (Nat.le_of_ble_eq_true rfl) (Val.load 0 rfl ag22 rfl rfl) ?_
    | refine TL.val rfl rfl (Nat.le_of_ble_eq_true rfl) (Val.load 1 rfl ag22 rfl rfl) ?_
    | refine TL.val rfl rfl (Nat.le_of_ble_eq_true rfl) (Val.load 2 rfl ag22 rfl rfl) ?_
    | refine TL.val rfl rfl (Nat.le_of_ble_eq_true rfl) (Val.load 3 rfl ag22 rfl rfl) ?_
    | refine TL.val rfl rfl (Nat.le_of_ble_eq_true rfl) (Val.load 4 rfl ag22 rfl rfl) ?_
    | refine TL.val rfl rfl (Nat.le_of_ble_eq_true rfl) (Val.load 5 rfl ag22 rfl rfl) ?_
  refine TL.val rfl rfl (Nat.le_of_ble_eq_true rfl) (Val.geq rfl rfl) ?_
  refine TL.val rfl rfl (Nat.le_of_ble_eq_true rfl) (Val.move rfl) ?_
  refine TL.gen (fun g2 hg2 => ?_)
  refine TL.gval rfl rfl (Nat.le_of_ble_eq_true rfl) rfl (Nat.le_of_ble_eq_true rfl) rfl (fun hg => by subst hg; exact (Val.fieldAddr rfl fl28_0 sz22 rfl)) ?_
  first
    | refine TL.gval rfl rfl (Nat.le_of_ble_eq_true rfl) rfl (Nat.le_of_ble_eq_true rfl) rfl (fun hg => by subst hg; exact (Val.load 0 rfl ag22 rfl rfl)) ?_
    | refine TL.gval rfl rfl (Nat.le_of_ble_eq_true rfl) rfl (Nat.le_of_ble_eq_true rfl) rfl (fun hg => by subst hg; exact (Val.load 1 rfl ag22 rfl rfl)) ?_
    | refine TL.gval rfl rfl (Nat.le_of_ble_eq_true rfl) rfl (Nat.le_of_ble_eq_true rfl) rfl (fun hg => by subst hg; exact (Val.load 2 rfl ag22 rfl rfl)) ?_
    | refine TL.gval rfl rfl (Nat.le_of_ble_eq_true rfl) rfl (Nat.le_of_ble_eq_true rfl) rfl (fun hg => by subst hg; exact (Val.load 3 rfl ag22 rfl rfl)) ?_
    | refine TL.gval rfl rfl (Nat.le_of_ble_eq_true rfl) rfl (Nat.le_of_ble_eq_true rfl) rfl (fun hg => by subst hg; exact (Val.load 4 rfl ag22 rfl rfl)) ?_
    | refine TL.gval rfl rfl (Nat.le_of_ble_eq_true rfl) rfl (Nat.le_of_ble_eq_true rfl) rfl (fun hg => by subst hg; exact (Val.load 5 rfl ag22 rfl rfl)) ?_
  refine TL.gval rfl rfl (Nat.le_of_ble_eq_true rfl) rfl (Nat.le_of_ble_eq_true rfl) rfl (fun hg => by subst hg; exact (Val.leq rfl rfl)) ?_
  first
    | refine TL.val rfl rfl (Nat.le_of_ble_eq_true rfl) (Val.pickAnd rfl rfl rfl) ?_
    | refine TL.val rfl rfl (Nat.le_of_ble_eq_true rfl) (Val.pickOr rfl rfl rfl) ?_
    | refine TL.val rfl rfl (Nat.le_of_ble_eq_true rfl) (Val.pick rfl rfl rfl) ?_
  refine TL.val rfl rfl (Nat.le_of_ble_eq_true rfl) (Val.move rfl) ?_
  refine TL.gen (fun g3 hg3 => ?_)
  refine TL.gval rfl rfl (Nat.le_of_ble_eq_true rfl) rfl (Nat.le_of_ble_eq_true rfl) rfl (fun hg => by subst hg; exact (Val.fieldAddr rfl fl28_1 sz3 rfl)) ?_
  first
    | refine TL.gval rfl rfl (Nat.le_of_ble_eq_true rfl) rfl (Nat.le_of_ble_eq_true rfl) rfl (fun hg => by subst hg; exact (Val.load 0 rfl ag3 rfl rfl)) ?_
    | refine TL.gval rfl rfl (Nat.le_of_ble_eq_true rfl) rfl (Nat.le_of_ble_eq_true rfl) rfl (fun hg => by subst hg; exact (Val.load 1 rfl ag3 rfl rfl)) ?_
    | refine TL.gval rfl rfl (Nat.le_of_ble_eq_true rfl) rfl (Nat.le_of_ble_eq_true rfl) rfl (fun hg => by subst hg; exact (Val.load 2 rfl ag3 rfl rfl)) ?_
    | refine TL.gval rfl rfl (Nat.le_of_ble_eq_true rfl) rfl (Nat.le_of_ble_eq_true rfl) rfl (fun hg => by subst hg; exact (Val.load 3 rfl ag3 rfl rfl)) ?_
    | refine TL.gval rfl rfl (Nat.le_of_ble_eq_true rfl) rfl (Nat.le_of_ble_eq_true rfl) rfl (fun hg => by subst hg; exact (Val.load 4 rfl ag3 rfl rfl)) ?_
    | refine TL.gval rfl rfl (Nat.le_of_ble_eq_true rfl) rfl (Nat.le_of_ble_eq_true rfl) rfl (fun hg => by subst hg; exact (Val.load 5 rfl ag3 rfl rfl)) ?_
  refine TL.gval rfl rfl (Nat.le_of_ble_eq_true rfl) rfl (Nat.le_of_ble_eq_true rfl) rfl (fun hg => by subst hg; exact (Val.geq rfl rfl)) ?_
  first
    | refine TL.val rfl rfl (Nat.le_of_ble_eq_true rfl) (Val.pickAnd rfl rfl rfl) ?_
    | refine TL.val rfl rfl (Nat.le_of_ble_eq_true rfl) (Val.pickOr rfl rfl rfl) ?_
    | refine TL.val rfl rfl (Nat.le_of_ble_eq_true rfl) (Val.pick rfl rfl rfl) ?_
  refine TL.val rfl rfl (Nat.le_of_ble_eq_true rfl) (Val.move rfl) ?_
  refine TL.gen (fun g4 hg4 => ?_)
  refine TL.gval rfl rfl (Nat.le_of_ble_eq_true rfl) rfl (Nat.le_of_ble_eq_true rfl) rfl (fun hg => by subst hg; exact (Val.fieldAddr rfl fl28_1 sz3 rfl)) ?_
  first
    | refine TL.gval rfl rfl (Nat.le_of_ble_eq_true rfl) rfl (Nat.le_of_ble_eq_true rfl) rfl (fun hg => by subst hg; exact (Val.load 0 rfl ag3 rfl rfl)) ?_
    | refine TL.gval rfl rfl (Nat.le_of_ble_eq_true rfl) rfl (Nat.le_of_ble_eq_true rfl) rfl (fun hg => by subst hg; exact (Val.load 1 rfl ag3 rfl rfl)) ?_
    | refine TL.gval rfl rfl (Nat.le_of_ble_eq_true rfl) rfl (Nat.le_of_ble_eq_true rfl) rfl (fun hg => by subst hg; exact (Val.load 2 rfl ag3 rfl rfl)) ?_
    | refine TL.gval rfl rfl (Nat.le_of_ble_eq_true rfl) rfl (Nat.le_of_ble_eq_true rfl) rfl (fun hg => by subst hg; exact (Val.load 3 rfl ag3 rfl rfl)) ?_
    | refine TL.gval rfl rfl (Nat.le_of_ble_eq_true rfl) rfl (Nat.le_of_ble_eq_true rfl) rfl (fun hg => by subst hg; exact (Val.load 4 rfl ag3 rfl rfl)) ?_
    | refine TL.gval rfl rfl (Nat.le_of_ble_eq_true rfl) rfl (Nat.le_of_ble_eq_true rfl) rfl (fun hg => by subst hg; exact (Val.load 5 rfl ag3 rfl rfl)) ?_
  refine TL.gval rfl rfl (Nat.le_of_ble_eq_true rfl) rfl (Nat.le_of_ble_eq_true rfl) rfl (fun hg => by subst hg; exact (Val.leq rfl rfl)) ?_
  first
    | refine TL.val rfl rfl (Nat.le_of_ble_eq_true rfl) (Val.pickAnd rfl rfl rfl) ?_
    | refine TL.val rfl rfl (Nat.le_of_ble_eq_true rfl) (Val.pickOr rfl rfl rfl) ?_
    | refine TL.val rfl rfl (Nat.le_of_ble_eq_true rfl) (Val.pick rfl rfl rfl) ?_
  refine TL.val rfl rfl (Nat.le_of_ble_eq_true rfl) (Val.move rfl) ?_
  refine TL.gen (fun g5 hg5 => ?_)
  refine TL.gval rfl rfl (Nat.le_of_ble_eq_true rfl) rfl (Nat.le_of_ble_eq_true rfl) rfl (fun hg => by subst hg; exact (Val.fieldAddr rfl fl28_2 sz3 rfl)) ?_
  first
    | refine TL.gval rfl rfl (Nat.le_of_ble_eq_true rfl) rfl (Nat.le_of_ble_eq_true rfl) rfl (fun hg => by subst hg; exact (Val.load 0 rfl ag3 rfl rfl)) ?_
    | refine TL.gval rfl rfl (Nat.le_of_ble_eq_true rfl) rfl (Nat.le_of_ble_eq_true rfl) rfl (fun hg => by subst hg; exact (Val.load 1 rfl ag3 rfl rfl)) ?_
    | refine TL.gval rfl rfl (Nat.le_of_ble_eq_true rfl) rfl (Nat.le_of_ble_eq_true rfl) rfl (fun hg => by subst hg; exact (Val.load 2 rfl ag3 rfl rfl)) ?_
    | refine TL.gval rfl rfl (Nat.le_of_ble_eq_true rfl) rfl (Nat.le_of_ble_eq_true rfl) rfl (fun hg => by subst hg; exact (Val.load 3 rfl ag3 rfl rfl)) ?_
    | refine TL.gval rfl rfl (Nat.le_of_ble_eq_true rfl) rfl (Nat.le_of_ble_eq_true rfl) rfl (fun hg => by subst hg; exact (Val.load 4 rfl ag3 rfl rfl)) ?_
    | refine TL.gval rfl rfl (Nat.le_of_ble_eq_true rfl) rfl (Nat.le_of_ble_eq_true rfl) rfl (fun hg => by subst hg; exact (Val.load 5 rfl ag3 rfl rfl)) ?_
  refine TL.gval rfl rfl (Nat.le_of_ble_eq_true rfl) rfl (Nat.le_of_ble_eq_true rfl) rfl (fun hg => by subst hg; exact (Val.geq rfl rfl)) ?_
  first
    | refine TL.val rfl rfl (Nat.le_of_ble_eq_true rfl) (Val.pickAnd rfl rfl rfl) ?_
    | refine TL.val rfl rfl (Nat.le_of_ble_eq_true rfl) (Val.pickOr rfl rfl rfl) ?_
    | refine TL.val rfl rfl (Nat.le_of_ble_eq_true rfl) (Val.pick rfl rfl rfl) ?_
  refine TL.val rfl rfl (Nat.le_of_ble_eq_true rfl) (Val.move rfl) ?_
  refine TL.gen (fun g6 hg6 => ?_)
  refine TL.gval rfl rfl (Nat.le_of_ble_eq_true rfl) rfl (Nat.le_of_ble_eq_true rfl) rfl (fun hg => by subst hg; exact (Val.fieldAddr rfl fl28_2 sz3 rfl)) ?_
  first
    | refine TL.gval rfl rfl (Nat.le_of_ble_eq_true rfl) rfl (Nat.le_of_ble_eq_true rfl) rfl (fun hg => by subst hg; exact (Val.load 0 rfl ag3 rfl rfl)) ?_
    | refine TL.gval rfl rfl (Nat.le_of_ble_eq_true rfl) rfl (Nat.le_of_ble_eq_true rfl) rfl (fun hg => by subst hg; exact (Val.load 1 rfl ag3 rfl rfl)) ?_
    | refine TL.gval rfl rfl (Nat.le_of_ble_eq_true rfl) rfl (Nat.le_of_ble_eq_true rfl) rfl (fun hg => by subst hg; exact (Val.load 2 rfl ag3 rfl rfl)) ?_
    | refine TL.gval rfl rfl (Nat.le_of_ble_eq_true rfl) rfl (Nat.le_of_ble_eq_true rfl) rfl (fun hg => by subst hg; exact (Val.load 3 rfl ag3 rfl rfl)) ?_
    | refine TL.gval rfl rfl (Nat.le_of_ble_eq_true rfl) rfl (Nat.le_of_ble_eq_true rfl) rfl (fun hg => by subst hg; exact (Val.load 4 rfl ag3 rfl rfl)) ?_
    | refine TL.gval rfl rfl (Nat.le_of_ble_eq_true rfl) rfl (Nat.le_of_ble_eq_true rfl) rfl (fun hg => by subst hg; exact (Val.load 5 rfl ag3 rfl rfl)) ?_
  refine TL.gval rfl rfl (Nat.le_of_ble_eq_true rfl) rfl (Nat.le_of_ble_eq_true rfl) rfl (fun hg => by subst hg; exact (Val.leq rfl rfl)) ?_
  first
    | refine TL.val rfl rfl (Nat.le_of_ble_eq_true rfl) (Val.pickAnd rfl rfl rfl) ?_
    | refine TL.val rfl rfl (Nat.le_of_ble_eq_true rfl) (Val.pickOr rfl rfl rfl) ?_
    | refine TL.val rfl rfl (Nat.le_of_ble_eq_true rfl) (Val.pick rfl rfl rfl) ?_
  refine TL.val rfl rfl (Nat.le_of_ble_eq_true rfl) (Val.move rfl) ?_
  refine TL.gen (fun g7 hg7 => ?_)
  refine TL.gval rfl rfl (Nat.le_of_ble_eq_true rfl) rfl (Nat.le_of_ble_eq_true rfl) rfl (fun hg => by subst hg; exact (Val.fieldAddr rfl fl28_3 sz9 rfl)) ?_
  first
    | refine TL.gval rfl rfl (Nat.le_of_ble_eq_true rfl) rfl (Nat.le_of_ble_eq_true rfl) rfl (fun hg => by subst hg; exact (Val.load 0 rfl ag9 rfl rfl)) ?_
    | refine TL.gval rfl rfl (Nat.le_of_ble_eq_true rfl) rfl (Nat.le_of_ble_eq_true rfl) rfl (fun hg => by subst hg; exact (Val.load 1 rfl ag9 rfl rfl)) ?_
    | refine TL.gval rfl rfl (Nat.le_of_ble_eq_true rfl) rfl (Nat.le_of_ble_eq_true rfl) rfl (fun hg => by subst hg; exact (Val.load 2 rfl ag9 rfl rfl)) ?_
    | refine TL.gval rfl rfl (Nat.le_of_ble_eq_true rfl) rfl (Nat.le_of_ble_eq_true rfl) rfl (fun hg => by subst hg; exact (Val.load 3 rfl ag9 rfl rfl)) ?_
    | refine TL.gval rfl rfl (Nat.le_of_ble_eq_true rfl) rfl (Nat.le_of_ble_eq_true rfl) rfl (fun hg => by subst hg; exact (Val.load 4 rfl ag9 rfl rfl)) ?_
    | refine TL.gval rfl rfl (Nat.le_of_ble_eq_true rfl) rfl (Nat.le_of_ble_eq_true rfl) rfl (fun hg => by subst hg; exact (Val.load 5 rfl ag9 rfl rfl)) ?_
  first
    | refine TL.gval rfl rfl (Nat.le_of_ble_eq_true rfl) rfl (Nat.le_of_ble_eq_true rfl) rfl (fun hg => by subst hg; exact (Val.lenL rfl rfl un9)) ?_
    | refine TL.gval rfl rfl (Nat.le_of_ble_eq_true rfl) rfl (Nat.le_of_ble_eq_true rfl) rfl (fun hg => by subst hg; exact (Val.lenStr rfl rfl un9)) ?_
  refine TL.gval rfl rfl (Nat.le_of_ble_eq_true rfl) rfl (Nat.le_of_ble_eq_true rfl) rfl (fun hg => by subst hg; exact (Val.leq rfl rfl)) ?_
  first
    | refine TL.val rfl rfl (Nat.le_of_ble_eq_true rfl) (Val.pickAnd rfl rfl rfl) ?_
    | refine TL.val rfl rfl (Nat.le_of_ble_eq_true rfl) (Val.pickOr rfl rfl rfl) ?_
    | refine TL.val rfl rfl (Nat.le_of_ble_eq_true rfl) (Val.pick rfl rfl rfl) ?_
  refine TL.val rfl rfl (Nat.le_of_ble_eq_true rfl) (Val.assign rfl) ?_
  refine TL.nil ?_
  refine AtX.then ?_
  refine TC.env (E' := [(2, _)]) (Sub.cons rfl (Sub.nil _)) ?_
  refine TC.ret1 (fn := Try.f15) (fun _ _ h => h) rfl (RV.tmp rfl) (ro_tail ro_refl) ?_
  refine ⟨?_, rfl⟩
  subst_vars
  rfl

/-- quorumite/quorumitelaw18.same -/
theorem same_fn (p pl kd : Int) (d : List UInt8) (A : Option Addr) (n c : Nat) (M : Hp) (hA : RdS M A (bv d)) (hn : n = d.length) : FnC Try.prog 16 #[.agg #[.int .u32 p, .int .i64 pl, .int .i64 kd, .slice A n c], .agg #[.int .u32 p, .int .i64 pl, .int .i64 kd, .string (ofL d)]] M (fun v M' => v = .bool true ∧ M = M') := by
  refine FnC.intro Try.func16 rfl 32 rfl (by simp) (fun z => ?_)
  refine TC.env (E' := [(0, _), (1, _)]) (Sub.cons rfl (Sub.cons rfl (Sub.nil _))) ?_
  refine TC.seq ?_
  refine TC.region ?_
  refine TL.does (some 2) rfl rfl rfl (Does.box rfl rfl) ?_
  rintro _ _ ⟨b1, rfl, rfl⟩
  refine TL.does (some 3) rfl rfl rfl (Does.box rfl rfl) ?_
  rintro _ _ ⟨b2, rfl, rfl⟩
  refine TL.val rfl rfl (Nat.le_of_ble_eq_true rfl) (Val.assign rfl) ?_
  refine TL.nil ?_
  refine AtX.then ?_
  refine TC.env (E' := [(2, _), (3, _), (4, _)]) (Sub.cons rfl (Sub.cons rfl (Sub.cons rfl (Sub.nil _)))) ?_
  refine TC.seq ?_
  refine TC.region ?_
  refine TL.val rfl rfl (Nat.le_of_ble_eq_true rfl) (Val.fieldAddr rfl fl31_0 sz22 rfl) ?_
  first
    | refine TL.val rfl rfl (Nat.le_of_ble_eq_true rfl) (Val.load 0 rfl ag22 rfl rfl) ?_
    | refine TL.val rfl rfl (Nat.le_of_ble_eq_true rfl) (Val.load 1 rfl ag22 rfl rfl) ?_
    | refine TL.val rfl rfl (Nat.le_of_ble_eq_true rfl) (Val.load 2 rfl ag22 rfl rfl) ?_
    | refine TL.val rfl rfl (Nat.le_of_ble_eq_true rfl) (Val.load 3 rfl ag22 rfl rfl) ?_
    | refine TL.val rfl rfl (Nat.le_of_ble_eq_true rfl) (Val.load 4 rfl ag22 rfl rfl) ?_
    | refine TL.val rfl rfl (Nat.le_of_ble_eq_true rfl) (Val.load 5 rfl ag22 rfl rfl) ?_
  refine TL.val rfl rfl (Nat.le_of_ble_eq_true rfl) (Val.fieldAddr rfl fl28_0 sz22 rfl) ?_
  first
    | refine TL.val rfl rfl (Nat.le_of_ble_eq_true rfl) (Val.load 0 rfl ag22 rfl rfl) ?_
    | refine TL.val rfl rfl (Nat.le_of_ble_eq_true rfl) (Val.load 1 rfl ag22 rfl rfl) ?_
    | refine TL.val rfl rfl (Nat.le_of_ble_eq_true rfl) (Val.load 2 rfl ag22 rfl rfl) ?_
    | refine TL.val rfl rfl (Nat.le_of_ble_eq_true rfl) (Val.load 3 rfl ag22 rfl rfl) ?_
    | refine TL.val rfl rfl (Nat.le_of_ble_eq_true rfl) (Val.load 4 rfl ag22 rfl rfl) ?_
    | refine TL.val rfl rfl (Nat.le_of_ble_eq_true rfl) (Val.load 5 rfl ag22 rfl rfl) ?_
  refine TL.val rfl rfl (Nat.le_of_ble_eq_true rfl) (Val.same (v' := .bool true) (Val.eqlI rfl rfl) (by simp)) ?_
  refine TL.val rfl rfl (Nat.le_of_ble_eq_true rfl) (Val.move rfl) ?_
  refine TL.valYes rfl rfl (Nat.le_of_ble_eq_true rfl) rfl (Nat.le_of_ble_eq_true rfl) rfl (Val.fieldAddr rfl fl31_1 sz3 rfl) ?_
  first
    | refine TL.valYes rfl rfl (Nat.le_of_ble_eq_true rfl) rfl (Nat.le_of_ble_eq_true rfl) rfl (Val.load 0 rfl ag3 rfl rfl) ?_
    | refine TL.valYes rfl rfl (Nat.le_of_ble_eq_true rfl) rfl (Nat.le_of_ble_eq_true rfl) rfl (Val.load 1 rfl ag3 rfl rfl) ?_
    | refine TL.valYes rfl rfl (Nat.le_of_ble_eq_true rfl) rfl (Nat.le_of_ble_eq_true rfl) rfl (Val.load 2 rfl ag3 rfl rfl) ?_
    | refine TL.valYes rfl rfl (Nat.le_of_ble_eq_true rfl) rfl (Nat.le_of_ble_eq_true rfl) rfl (Val.load 3 rfl ag3 rfl rfl) ?_
    | refine TL.valYes rfl rfl (Nat.le_of_ble_eq_true rfl) rfl (Nat.le_of_ble_eq_true rfl) rfl (Val.load 4 rfl ag3 rfl rfl) ?_
    | refine TL.valYes rfl rfl (Nat.le_of_ble_eq_true rfl) rfl (Nat.le_of_ble_eq_true rfl) rfl (Val.load 5 rfl ag3 rfl rfl) ?_
  refine TL.valYes rfl rfl (Nat.le_of_ble_eq_true rfl) rfl (Nat.le_of_ble_eq_true rfl) rfl (Val.fieldAddr rfl fl28_1 sz3 rfl) ?_
  first
    | refine TL.valYes rfl rfl (Nat.le_of_ble_eq_true rfl) rfl (Nat.le_of_ble_eq_true rfl) rfl (Val.load 0 rfl ag3 rfl rfl) ?_
    | refine TL.valYes rfl rfl (Nat.le_of_ble_eq_true rfl) rfl (Nat.le_of_ble_eq_true rfl) rfl (Val.load 1 rfl ag3 rfl rfl) ?_
    | refine TL.valYes rfl rfl (Nat.le_of_ble_eq_true rfl) rfl (Nat.le_of_ble_eq_true rfl) rfl (Val.load 2 rfl ag3 rfl rfl) ?_
    | refine TL.valYes rfl rfl (Nat.le_of_ble_eq_true rfl) rfl (Nat.le_of_ble_eq_true rfl) rfl (Val.load 3 rfl ag3 rfl rfl) ?_
    | refine TL.valYes rfl rfl (Nat.le_of_ble_eq_true rfl) rfl (Nat.le_of_ble_eq_true rfl) rfl (Val.load 4 rfl ag3 rfl rfl) ?_
    | refine TL.valYes rfl rfl (Nat.le_of_ble_eq_true rfl) rfl (Nat.le_of_ble_eq_true rfl) rfl (Val.load 5 rfl ag3 rfl rfl) ?_
  refine TL.valYes rfl rfl (Nat.le_of_ble_eq_true rfl) rfl (Nat.le_of_ble_eq_true rfl) rfl (Val.same (v' := .bool true) (Val.eqlI rfl rfl) (by simp)) ?_
  first
    | refine TL.val rfl rfl (Nat.le_of_ble_eq_true rfl) (Val.pickAnd rfl rfl rfl) ?_
    | refine TL.val rfl rfl (Nat.le_of_ble_eq_true rfl) (Val.pickOr rfl rfl rfl) ?_
    | refine TL.val rfl rfl (Nat.le_of_ble_eq_true rfl) (Val.pick rfl rfl rfl) ?_
  refine TL.val rfl rfl (Nat.le_of_ble_eq_true rfl) (Val.move rfl) ?_
  refine TL.valYes rfl rfl (Nat.le_of_ble_eq_true rfl) rfl (Nat.le_of_ble_eq_true rfl) rfl (Val.fieldAddr rfl fl31_2 sz3 rfl) ?_
  first
    | refine TL.valYes rfl rfl (Nat.le_of_ble_eq_true rfl) rfl (Nat.le_of_ble_eq_true rfl) rfl (Val.load 0 rfl ag3 rfl rfl) ?_
    | refine TL.valYes rfl rfl (Nat.le_of_ble_eq_true rfl) rfl (Nat.le_of_ble_eq_true rfl) rfl (Val.load 1 rfl ag3 rfl rfl) ?_
    | refine TL.valYes rfl rfl (Nat.le_of_ble_eq_true rfl) rfl (Nat.le_of_ble_eq_true rfl) rfl (Val.load 2 rfl ag3 rfl rfl) ?_
    | refine TL.valYes rfl rfl (Nat.le_of_ble_eq_true rfl) rfl (Nat.le_of_ble_eq_true rfl) rfl (Val.load 3 rfl ag3 rfl rfl) ?_
    | refine TL.valYes rfl rfl (Nat.le_of_ble_eq_true rfl) rfl (Nat.le_of_ble_eq_true rfl) rfl (Val.load 4 rfl ag3 rfl rfl) ?_
    | refine TL.valYes rfl rfl (Nat.le_of_ble_eq_true rfl) rfl (Nat.le_of_ble_eq_true rfl) rfl (Val.load 5 rfl ag3 rfl rfl) ?_
  refine TL.valYes rfl rfl (Nat.le_of_ble_eq_true rfl) rfl (Nat.le_of_ble_eq_true rfl) rfl (Val.fieldAddr rfl fl28_2 sz3 rfl) ?_
  first
    | refine TL.valYes rfl rfl (Nat.le_of_ble_eq_true rfl) rfl (Nat.le_of_ble_eq_true rfl) rfl (Val.load 0 rfl ag3 rfl rfl) ?_
    | refine TL.valYes rfl rfl (Nat.le_of_ble_eq_true rfl) rfl (Nat.le_of_ble_eq_true rfl) rfl (Val.load 1 rfl ag3 rfl rfl) ?_
    | refine TL.valYes rfl rfl (Nat.le_of_ble_eq_true rfl) rfl (Nat.le_of_ble_eq_true rfl) rfl (Val.load 2 rfl ag3 rfl rfl) ?_
    | refine TL.valYes rfl rfl (Nat.le_of_ble_eq_true rfl) rfl (Nat.le_of_ble_eq_true rfl) rfl (Val.load 3 rfl ag3 rfl rfl) ?_
    | refine TL.valYes rfl rfl (Nat.le_of_ble_eq_true rfl) rfl (Nat.le_of_ble_eq_true rfl) rfl (Val.load 4 rfl ag3 rfl rfl) ?_
    | refine TL.valYes rfl rfl (Nat.le_of_ble_eq_true rfl) rfl (Nat.le_of_ble_eq_true rfl) rfl (Val.load 5 rfl ag3 rfl rfl) ?_
  refine TL.valYes rfl rfl (Nat.le_of_ble_eq_true rfl) rfl (Nat.le_of_ble_eq_true rfl) rfl (Val.same (v' := .bool true) (Val.eqlI rfl rfl) (by simp)) ?_
  first
    | refine TL.val rfl rfl (Nat.le_of_ble_eq_true rfl) (Val.pickAnd rfl rfl rfl) ?_
    | refine TL.val rfl rfl (Nat.le_of_ble_eq_true rfl) (Val.pickOr rfl rfl rfl) ?_
    | refine TL.val rfl rfl (Nat.le_of_ble_eq_true rfl) (Val.pick rfl rfl rfl) ?_
  refine TL.val rfl rfl (Nat.le_of_ble_eq_true rfl) (Val.move rfl) ?_
  refine TL.valYes rfl rfl (Nat.le_of_ble_eq_true rfl) rfl (Nat.le_of_ble_eq_true rfl) rfl (Val.fieldAddr rfl fl31_3 sz23 rfl) ?_
  first
    | refine TL.valYes rfl rfl (Nat.le_of_ble_eq_true rfl) rfl (Nat.le_of_ble_eq_true rfl) rfl (Val.load 0 rfl ag23 rfl rfl) ?_
    | refine TL.valYes rfl rfl (Nat.le_of_ble_eq_true rfl) rfl (Nat.le_of_ble_eq_true rfl) rfl (Val.load 1 rfl ag23 rfl rfl) ?_
    | refine TL.valYes rfl rfl (Nat.le_of_ble_eq_true rfl) rfl (Nat.le_of_ble_eq_true rfl) rfl (Val.load 2 rfl ag23 rfl rfl) ?_
    | refine TL.valYes rfl rfl (Nat.le_of_ble_eq_true rfl) rfl (Nat.le_of_ble_eq_true rfl) rfl (Val.load 3 rfl ag23 rfl rfl) ?_
    | refine TL.valYes rfl rfl (Nat.le_of_ble_eq_true rfl) rfl (Nat.le_of_ble_eq_true rfl) rfl (Val.load 4 rfl ag23 rfl rfl) ?_
    | refine TL.valYes rfl rfl (Nat.le_of_ble_eq_true rfl) rfl (Nat.le_of_ble_eq_true rfl) rfl (Val.load 5 rfl ag23 rfl rfl) ?_
  refine TL.valYes rfl rfl (Nat.le_of_ble_eq_true rfl) rfl (Nat.le_of_ble_eq_true rfl) rfl (Val.b2s (l := d) rfl us23 ui5 un9 hn (hA.cons _ |>.cons _)) ?_
  refine TL.valYes rfl rfl (Nat.le_of_ble_eq_true rfl) rfl (Nat.le_of_ble_eq_true rfl) rfl (Val.fieldAddr rfl fl28_3 sz9 rfl) ?_
  first
    | refine TL.valYes rfl rfl (Nat.le_of_ble_eq_true rfl) rfl (Nat.le_of_ble_eq_true rfl) rfl (Val.load 0 rfl ag9 rfl rfl) ?_
    | refine TL.valYes rfl rfl (Nat.le_of_ble_eq_true rfl) rfl (Nat.le_of_ble_eq_true rfl) rfl (Val.load 1 rfl ag9 rfl rfl) ?_
    | refine TL.valYes rfl rfl (Nat.le_of_ble_eq_true rfl) rfl (Nat.le_of_ble_eq_true rfl) rfl (Val.load 2 rfl ag9 rfl rfl) ?_
    | refine TL.valYes rfl rfl (Nat.le_of_ble_eq_true rfl) rfl (Nat.le_of_ble_eq_true rfl) rfl (Val.load 3 rfl ag9 rfl rfl) ?_
    | refine TL.valYes rfl rfl (Nat.le_of_ble_eq_true rfl) rfl (Nat.le_of_ble_eq_true rfl) rfl (Val.load 4 rfl ag9 rfl rfl) ?_
    | refine TL.valYes rfl rfl (Nat.le_of_ble_eq_true rfl) rfl (Nat.le_of_ble_eq_true rfl) rfl (Val.load 5 rfl ag9 rfl rfl) ?_
  first
    | refine TL.valYes rfl rfl (Nat.le_of_ble_eq_true rfl) rfl (Nat.le_of_ble_eq_true rfl) rfl (Val.same (v' := .bool true) (Val.eqlL rfl rfl) (by simp)) ?_
    | refine TL.valYes rfl rfl (Nat.le_of_ble_eq_true rfl) rfl (Nat.le_of_ble_eq_true rfl) rfl (Val.same (v' := .bool true) (Val.eqlS rfl rfl) (by simp)) ?_
  first
    | refine TL.val rfl rfl (Nat.le_of_ble_eq_true rfl) (Val.pickAnd rfl rfl rfl) ?_
    | refine TL.val rfl rfl (Nat.le_of_ble_eq_true rfl) (Val.pickOr rfl rfl rfl) ?_
    | refine TL.val rfl rfl (Nat.le_of_ble_eq_true rfl) (Val.pick rfl rfl rfl) ?_
  refine TL.val rfl rfl (Nat.le_of_ble_eq_true rfl) (Val.assign rfl) ?_
  refine TL.nil ?_
  refine AtX.then ?_
  refine TC.env (E' := [(4, _)]) (Sub.cons rfl (Sub.nil _)) ?_
  refine TC.ret1 (fn := Try.f16) (fun _ _ h => h) rfl (RV.tmp rfl) (ro_tail (ro_tail ro_refl)) ?_
  exact ⟨rfl, rfl⟩

end Go.Proofs.Ytbjjjapdioegpaa
