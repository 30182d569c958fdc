/- Texts put together: A50, A51, A52, A53, A54, A55, A1. -/
import Derived.Test.YtphoapajlcaoeaaFB
import Derived.Test.YtphoapajlcaoeaaG2
import Derived.Test.YtphoapajlcaoeaaG1
/- walks -/
set_option linter.unusedVariables false
set_option linter.unusedSimpArgs false
set_option maxRecDepth 100000
set_option maxHeartbeats 4000000
namespace Go.Proofs.Ytphoapajlcaoeaa
open Go Go.X
/-- quorumite/quorumiteref1.turn -/
theorem refturn_fn (x : Int) (k : Nat) (M : Hp) (hk : k < 64) : FnC Try.prog 122 #[.int .u64 x, .int .u64 (k : Nat)] M (fun v M' => v = .int .u64 (rotl x k) ∧ M = M') := by
  refine FnC.intro Try.func122 rfl 13 rfl (by simp) (fun z => ?_)
  refine TC.env (E' := [(0, _), (1, _)]) (Sub.cons rfl (Sub.cons rfl (Sub.nil _))) ?_
  refine TC.sr ?_
  refine TL.v (Val.assign rfl) ?_
  refine TL.nt ?_
  refine TC.sr ?_
  refine TL.v (Val.move rfl) ?_
  refine TL.v (Val.move rfl) ?_
  refine TL.v (Val.shl rfl rfl (by omega) (r := IntKind.u64.wrap (x * 2 ^ k)) (by rw [show min ((k : Int)).toNat IntKind.u64.bits = k from by simp only [IntKind.bits]; omega])) ?_
  refine TL.v (Val.move rfl) ?_
  refine TL.v (Val.move rfl) ?_
  refine TL.v (Val.sub rfl rfl (r := ((64 - k : Nat) : Int)) (by rw [w_u64 (by omega) (by omega)]; omega)) ?_
  refine TL.v (Val.shr rfl rfl (by omega) (r := x.fdiv (2 ^ (64 - k))) (by rw [show min (((64 - k : Nat) : Int)).toNat IntKind.u64.bits = 64 - k from by simp only [IntKind.bits]; omega])) ?_
  refine TL.v (Val.or rfl rfl rfl) ?_
  refine TL.v (Val.assign rfl) ?_
  refine TL.nt ?_
  refine TC.en (E' := [(4, _)]) ?_
  refine TC.r1 (hM := (fun _ h => h)) (fn := Try.f122) (fun _ _ h => h) rfl (RV.tmp rfl) ?_
  exact ⟨rfl, rfl⟩

/-- quorumite/quorumiteref1.Round -/
theorem refRound_fn (w : W4) (M : Hp) : FnC Try.prog 120 #[.int .u64 w.a, .int .u64 w.b, .int .u64 w.c, .int .u64 w.d] M (fun v M' => v = .tuple #[.int .u64 (round1 w).a, .int .u64 (round1 w).b, .int .u64 (round1 w).c, .int .u64 (round1 w).d] ∧ M = M') := by
  refine FnC.intro Try.func120 rfl 48 rfl (by simp) (fun z => ?_)
  refine TC.env (E' := [(0, _), (1, _), (2, _), (3, _)]) (Sub.cons rfl (Sub.cons rfl (Sub.cons rfl (Sub.cons rfl (Sub.nil _))))) ?_
  refine TC.sr ?_
  refine TL.v (Val.assign rfl) ?_
  refine TL.v (Val.assign rfl) ?_
  refine TL.v (Val.assign rfl) ?_
  refine TL.v (Val.assign rfl) ?_
  refine TL.nt ?_
  refine TC.sr ?_
  refine TL.v (Val.move rfl) ?_
  refine TL.v (Val.move rfl) ?_
  refine TL.v (Val.add rfl rfl rfl) ?_
  refine TL.v (Val.assign rfl) ?_
  refine TL.nt ?_
  refine TC.sr ?_
  refine TL.v (Val.move rfl) ?_
  refine TL.d (Does.callF go122 rfl (refturn_fn _ 13 _ (by decide))) ?_
  rintro _ _ ⟨rfl, rfl⟩
  refine TL.v (Val.move rfl) ?_
  refine TL.v (Val.xor rfl rfl rfl) ?_
  refine TL.v (Val.assign rfl) ?_
  refine TL.nt ?_
  refine TC.sr ?_
  refine TL.v (Val.move rfl) ?_
  refine TL.d (Does.callF go122 rfl (refturn_fn _ 32 _ (by decide))) ?_
  rintro _ _ ⟨rfl, rfl⟩
  refine TL.v (Val.assign rfl) ?_
  refine TL.nt ?_
  refine TC.en (E' := [(0, _), (1, _), (2, _), (3, _), (8, _), (9, _), (10, _), (11, _)]) ?_
  refine TC.sr ?_
  refine TL.v (Val.move rfl) ?_
  refine TL.v (Val.move rfl) ?_
  refine TL.v (Val.add rfl rfl rfl) ?_
  refine TL.v (Val.assign rfl) ?_
  refine TL.nt ?_
  refine TC.sr ?_
  refine TL.v (Val.move rfl) ?_
  refine TL.d (Does.callF go122 rfl (refturn_fn _ 16 _ (by decide))) ?_
  rintro _ _ ⟨rfl, rfl⟩
  refine TL.v (Val.move rfl) ?_
  refine TL.v (Val.xor rfl rfl rfl) ?_
  refine TL.v (Val.assign rfl) ?_
  refine TL.nt ?_
  refine TC.sr ?_
  refine TL.v (Val.move rfl) ?_
  refine TL.v (Val.move rfl) ?_
  refine TL.v (Val.add rfl rfl rfl) ?_
  refine TL.v (Val.assign rfl) ?_
  refine TL.nt ?_
  refine TC.en (E' := [(0, _), (1, _), (2, _), (3, _), (8, _), (9, _), (10, _), (11, _)]) ?_
  refine TC.sr ?_
  refine TL.v (Val.move rfl) ?_
  refine TL.d (Does.callF go122 rfl (refturn_fn _ 21 _ (by decide))) ?_
  rintro _ _ ⟨rfl, rfl⟩
  refine TL.v (Val.move rfl) ?_
  refine TL.v (Val.xor rfl rfl rfl) ?_
  refine TL.v (Val.assign rfl) ?_
  refine TL.nt ?_
  refine TC.sr ?_
  refine TL.v (Val.move rfl) ?_
  refine TL.v (Val.move rfl) ?_
  refine TL.v (Val.add rfl rfl rfl) ?_
  refine TL.v (Val.assign rfl) ?_
  refine TL.nt ?_
  refine TC.sr ?_
  refine TL.v (Val.move rfl) ?_
  refine TL.d (Does.callF go122 rfl (refturn_fn _ 17 _ (by decide))) ?_
  rintro _ _ ⟨rfl, rfl⟩
  refine TL.v (Val.move rfl) ?_
  refine TL.v (Val.xor rfl rfl rfl) ?_
  refine TL.v (Val.assign rfl) ?_
  refine TL.nt ?_
  refine TC.en (E' := [(0, _), (1, _), (2, _), (3, _), (8, _), (9, _), (10, _), (11, _)]) ?_
  refine TC.sr ?_
  refine TL.v (Val.move rfl) ?_
  refine TL.d (Does.callF go122 rfl (refturn_fn _ 32 _ (by decide))) ?_
  rintro _ _ ⟨rfl, rfl⟩
  refine TL.v (Val.assign rfl) ?_
  refine TL.nt ?_
  refine TC.sr ?_
  refine TL.v (Val.move rfl) ?_
  refine TL.v (Val.move rfl) ?_
  refine TL.v (Val.move rfl) ?_
  refine TL.v (Val.move rfl) ?_
  refine TL.v (Val.assign rfl) ?_
  refine TL.v (Val.assign rfl) ?_
  refine TL.v (Val.assign rfl) ?_
  refine TL.v (Val.assign rfl) ?_
  refine TL.nt ?_
  refine TC.en (E' := [(8, _), (9, _), (10, _), (11, _)]) ?_
  refine TC.ret4 (fn := Try.f120) (fun _ _ h => h) rfl (RV.tmp rfl) (RV.tmp rfl) (RV.tmp rfl) (RV.tmp rfl) (fun _ h => h) ?_
  exact ⟨rfl, rfl⟩

/-- quorumite/quorumiteref1.Put -/
theorem refPut_fn (n : Int) (M : Hp) : FnC Try.prog 111 #[.int .u64 n] M (fun v M' => v = .string (ofL (put8 n)) ∧ M = M') := by
  refine FnC.intro Try.func111 rfl 21 rfl (by simp) (fun z => ?_)
  refine TC.env (E' := [(0, _)]) (Sub.cons rfl (Sub.nil _)) ?_
  refine TC.sr ?_
  refine TL.v (Val.assign rfl) ?_
  refine TL.nt ?_
  refine TC.sr ?_
  refine TL.d (Does.makeSlice (n := 8) (c := 8) rfl rfl sl37 sz5 by5 ze5 rfl rfl rfl (by omega) (by omega) (by omega)) ?_
  rintro _ _ ⟨b5, rfl, rfl⟩
  refine TL.v (Val.assign rfl) ?_
  refine TL.nt ?_
  refine TC.seq ?_
  refine TC.sr ?_
  refine TL.v (Val.assign rfl) ?_
  refine TL.nt ?_
  refine TC.block ?_
  refine TC.loop (ι := Nat) (fun k => [(0, .int .u64 n), (3, .slice (some ⟨b5, 0, none⟩) 8 8), (4, .int .i64 (k : Nat))]) (fun k => (b5, row 5 (bv (pb n k ++ List.replicate (8 - k) 0) ++ [])) :: M) (fun k => k ≤ 8) (fun k => 8 - k) 0 ?_ (Sub.cons rfl (Sub.cons rfl (Sub.cons rfl (Sub.nil _)))) (fun w h => by simpa [pb, zrep_bytes, Value.cells] using h) ?_
  · exact Nat.zero_le _
  intro k hk
  refine TC.seq ?_
  refine TC.sr ?_
  refine TL.v (Val.move rfl) ?_
  refine TL.v (Val.lss rfl rfl) ?_
  refine TL.nt ?_
  refine TC.condP rfl (fun c1 => ?_) (fun c1 => ?_)
  · skip
    refine TC.skip ?_
    refine AtX.then ?_
    refine TC.seq ?_
    refine TC.block ?_
    refine TC.region ?_
    refine TL.v (Val.move rfl) ?_
    refine TL.v (Val.move rfl) ?_
    refine TL.v (Val.move rfl) ?_
    refine TL.v (Val.move rfl) ?_
    refine TL.v (Val.mul rfl rfl (w_i64 (by omega) (by omega))) ?_
    refine TL.v (Val.convI rfl iu3 in32 (w_u64 (by omega) (by omega))) ?_
    refine TL.v (Val.shr rfl rfl (by omega) (shr_val (by omega))) ?_
    refine TL.v (Val.convI rfl iu24 in5 w_b8) ?_
    refine TL.v (Val.indexAddr (i := k) rfl rfl sl37 sz5 rfl (by omega) rfl) ?_
    refine TL.d (Does.storeB (c := byteAt n k) rfl rfl (i := 0) (j := k) rfl (by omega) (by simp; omega) sz5) ?_
    rintro _ _ ⟨rfl, rfl⟩
    refine TL.nil ?_
    refine AtX.blk ?_
    refine AtX.then ?_
    refine TC.region ?_
    refine TL.v (Val.move rfl) ?_
    refine TL.v (Val.add rfl rfl (w_i64 (by omega) (by omega))) ?_
    refine TL.v (Val.assign rfl) ?_
    refine TL.nil ?_
    refine AtX.round (k + 1) ?_ ?_ (Sub.cons rfl (Sub.cons rfl (Sub.cons rfl (Sub.nil _)))) (fun w h => by rw [← pb_set (by omega)]; exact h)
    · omega
    · omega
  · skip
    refine TC.exit ?_
    refine AtX.seqX ?_
    refine AtX.seqX ?_
    refine AtX.hit ?_
    refine AtX.then ?_
    refine TC.seq ?_
    have h8 : k = 8 := by omega
    subst h8
    have e8 : pb n 8 ++ List.replicate (8 - 8) 0 = put8 n := by simp [put8]
    rw [e8]
    refine TC.region ?_
    refine TL.v (Val.move rfl) ?_
    refine TL.v (Val.b2s (l := put8 n) rfl us37 ui5 un9 (by simp) (rd_all (i := 0) rfl)) ?_
    refine TL.v (Val.assign rfl) ?_
    refine TL.nt ?_
    refine TC.r1 (hM := (ro_tail ro_refl)) (fn := Try.f111) (fun _ _ h => h) rfl (RV.tmp rfl) ?_
    exact ⟨rfl, rfl⟩

/-- quorumite/quorumiteref1.Get -/
theorem refGet_fn (l : List UInt8) (o : Nat) (M : Hp) (hl : l.length ≤ 2000) (ho : o + 8 ≤ l.length) : FnC Try.prog 119 #[.string (ofL l), .int .i64 (o : Nat)] M (fun v M' => v = .tuple #[.int .u64 (get8 l o : Nat), .int .i64 0] ∧ M = M') := by
  refine FnC.intro Try.func119 rfl 40 rfl (by simp) (fun z => ?_)
  refine TC.env (E' := [(0, _), (1, _)]) (Sub.cons rfl (Sub.cons rfl (Sub.nil _))) ?_
  refine TC.sr ?_
  refine TL.v (Val.assign rfl) ?_
  refine TL.v (Val.assign rfl) ?_
  refine TL.nt ?_
  refine TC.seq ?_
  refine TC.sr ?_
  refine TL.v (Val.move rfl) ?_
  refine TL.v (Val.lss rfl rfl) ?_
  refine TL.v (Val.move rfl) ?_
  refine TL.gen (fun g1 hg1 => ?_)
  refine TL.gv rfl rfl rfl (fun hg => by subst hg; exact (Val.move rfl)) ?_
  refine TL.gv rfl rfl rfl (fun hg => by subst hg; exact (Val.move rfl)) ?_
  refine TL.gv rfl rfl rfl (fun hg => by subst hg; exact (Val.lenL rfl rfl un9)) ?_
  refine TL.gv rfl rfl rfl (fun hg => by subst hg; exact (Val.gtr rfl rfl)) ?_
  refine TL.v (Val.pickOr rfl rfl rfl) ?_
  refine TL.v (Val.move rfl) ?_
  refine TL.gen (fun g2 hg2 => ?_)
  refine TL.gv rfl rfl rfl (fun hg => by subst hg; exact (Val.move rfl)) ?_
  refine TL.gv rfl rfl rfl (fun hg => by subst hg; exact (Val.lenL rfl rfl un9)) ?_
  refine TL.gv rfl rfl rfl (fun hg => by subst hg; exact (Val.move rfl)) ?_
  refine TL.gv rfl rfl rfl (fun hg => by subst hg; exact (Val.sub rfl rfl (w_i64 (by omega) (by omega)))) ?_
  refine TL.gv rfl rfl rfl (fun hg => by subst hg; exact (Val.lss rfl rfl)) ?_
  refine TL.v (Val.pickOr rfl rfl rfl) ?_
  refine TL.nt ?_
  refine TC.en (E' := [(0, _), (1, _), (4, _), (5, _), (22, _)]) ?_
  refine TC.cond rfl (fun c1 => ?_) (fun c1 => ?_)
  · skip
    (exfalso; grind)
  · skip
    refine TC.skip ?_
    refine AtX.then ?_
    refine TC.sr ?_
    refine TL.v (Val.assign rfl) ?_
    refine TL.nt ?_
    refine TC.seq ?_
    refine TC.sr ?_
    refine TL.v (Val.assign rfl) ?_
    refine TL.nt ?_
    refine TC.block ?_
    refine TC.loop (ι := Nat) (fun k => [(0, .string (ofL l)), (1, .int .i64 o), (6, .int .u64 (getTo l o k : Nat)), (7, .int .i64 (k : Nat))]) (fun _ => M) (fun k => k ≤ 8) (fun k => 8 - k) 0 ?_ (Sub.cons rfl (Sub.cons rfl (Sub.cons rfl (Sub.cons rfl (Sub.nil _))))) (fun _ h => h) ?_
    · exact Nat.zero_le _
    intro k hk
    refine TC.seq ?_
    refine TC.sr ?_
    refine TL.v (Val.move rfl) ?_
    refine TL.v (Val.lss rfl rfl) ?_
    refine TL.nt ?_
    refine TC.condP rfl (fun c2 => ?_) (fun c2 => ?_)
    · skip
      refine TC.skip ?_
      refine AtX.then ?_
      refine TC.seq ?_
      refine TC.block ?_
      have hlt : k < 8 := by omega
      have hB := getTo_lt l o k
      have hc : (l.getD (o + k) 0).toNat < 256 := UInt8.toNat_lt _
      refine TC.region ?_
      refine TL.v (Val.move rfl) ?_
      refine TL.v (Val.move rfl) ?_
      refine TL.v (Val.move rfl) ?_
      refine TL.v (Val.move rfl) ?_
      refine TL.v (Val.add rfl rfl (w_i64 (by omega) (by omega))) ?_
      refine TL.v (Val.indexL (i := o + k) rfl rfl un9 (by push_cast; rfl) (by omega)) ?_
      refine TL.v (Val.convI rfl iu5 in24 (w_u64 (by omega) (by omega))) ?_
      refine TL.v (Val.move rfl) ?_
      refine TL.v (Val.mul rfl rfl (w_i64 (by omega) (by omega))) ?_
      refine TL.v (Val.convI rfl iu3 in32 (w_u64 (by omega) (by omega))) ?_
      refine TL.v (Val.shl rfl rfl (by omega) (shl_val hlt hc)) ?_
      refine TL.v (Val.or rfl rfl (or_add hlt hB hc)) ?_
      refine TL.v (Val.assign rfl) ?_
      refine TL.nil ?_
      refine AtX.blk ?_
      refine AtX.then ?_
      refine TC.region ?_
      refine TL.v (Val.move rfl) ?_
      refine TL.v (Val.add rfl rfl (w_i64 (by omega) (by omega))) ?_
      refine TL.v (Val.assign rfl) ?_
      refine TL.nil ?_
      refine AtX.round (k + 1) ?_ ?_ (Sub.cons rfl (Sub.cons rfl (Sub.cons rfl (Sub.cons rfl (Sub.nil _))))) (fun _ h => h)
      · omega
      · omega
    · skip
      refine TC.exit ?_
      refine AtX.seqX ?_
      refine AtX.seqX ?_
      refine AtX.hit ?_
      refine AtX.then ?_
      refine TC.sr ?_
      refine TL.v (Val.move rfl) ?_
      refine TL.v (Val.assign rfl) ?_
      refine TL.v (Val.assign rfl) ?_
      refine TL.nt ?_
      refine TC.r2 (hM := (fun _ h => h)) (fn := Try.f119) (fun _ _ h => h) rfl (RV.tmp rfl) (RV.tmp rfl) ?_
      refine ⟨?_, rfl⟩
      have : k = 8 := by omega
      subst this; rfl

end Go.Proofs.Ytphoapajlcaoeaa
/- walks -/
set_option linter.unusedVariables false
set_option linter.unusedSimpArgs false
set_option maxRecDepth 100000
set_option maxHeartbeats 4000000
namespace Go.Proofs.Ytphoapajlcaoeaa
open Go Go.X
/-- quorumite/quorumiteref1.Sum -/
theorem refSip_fn (k : K2) (l : List UInt8) (M : Hp) (hl : l.length ≤ 1000) : FnC Try.prog 112 #[.agg #[.int .u64 k.a, .int .u64 k.b], .string (ofL l)] M (fun v M' => v = .int .u64 (sipSum k.a k.b l) ∧ M = M') := by
  refine FnC.intro Try.func112 rfl 120 rfl (by simp) (fun z => ?_)
  refine TC.env (E' := [(0, _), (1, _)]) (Sub.cons rfl (Sub.cons rfl (Sub.nil _))) ?_
  refine TC.sr ?_
  refine TL.d (Does.box rfl rfl) ?_
  rintro _ _ ⟨b1, rfl, rfl⟩
  refine TL.v (Val.assign rfl) ?_
  refine TL.nt ?_
  refine TC.sr ?_
  refine TL.v (Val.indexAddrA (i := 0) rfl rfl ar69 sz24 rfl (by first | decide | omega) rfl) ?_
  refine TL.v (Val.load 0 rfl ag24 rfl rfl) ?_
  refine TL.v (Val.xor rfl rfl (r := (keyW k.a k.b).a) (xor64_comm _ _)) ?_
  refine TL.v (Val.indexAddrA (i := 1) rfl rfl ar69 sz24 rfl (by first | decide | omega) rfl) ?_
  refine TL.v (Val.load 0 rfl ag24 rfl rfl) ?_
  refine TL.v (Val.xor rfl rfl (r := (keyW k.a k.b).b) (xor64_comm _ _)) ?_
  refine TL.v (Val.indexAddrA (i := 0) rfl rfl ar69 sz24 rfl (by first | decide | omega) rfl) ?_
  refine TL.v (Val.load 0 rfl ag24 rfl rfl) ?_
  refine TL.v (Val.xor rfl rfl (r := (keyW k.a k.b).c) (xor64_comm _ _)) ?_
  refine TL.v (Val.indexAddrA (i := 1) rfl rfl ar69 sz24 rfl (by first | decide | omega) rfl) ?_
  refine TL.v (Val.load 0 rfl ag24 rfl rfl) ?_
  refine TL.v (Val.xor rfl rfl (r := (keyW k.a k.b).d) (xor64_comm _ _)) ?_
  refine TL.v (Val.buildA ar182 sz24 ze182 rfl rfl) ?_
  refine TL.d (Does.alloc ze182 rfl) ?_
  rintro _ _ ⟨bw, rfl, rfl⟩
  refine TL.d (Does.store (i := 0) rfl rfl rfl sz182 rfl rfl (by first | exact Nat.le_of_ble_eq_true rfl | decide | omega) rfl rfl) ?_
  rintro _ _ ⟨rfl, rfl⟩
  refine TL.nt ?_
  refine TC.en (E' := [(1, _), (4, _), (5, _)]) ?_
  refine TC.join (ι := Unit) (fun _ => [(5, .pointer (some ⟨bw, 0, none⟩)), (6, .string (ofL (padB l)))]) (fun _ => (bw, .cells (wc (keyW k.a k.b)) 182 (0, 0)) :: M) (fun _ => True) ?_ ?_
  · skip
    refine TC.drawL ((bw, .cells (wc (keyW k.a k.b)) 182 (0, 0)) :: (b1, .cells #[.int .u64 k.a, .int .u64 k.b] 69 (0, 0)) :: M) mixed 15 ?_
    refine TA.tk 0 1 rfl rfl rfl (Val.move rfl) ?_
    refine TA.tk 1 3 rfl rfl rfl (Val.move rfl) ?_
    refine TA.tk 2 7 rfl rfl rfl (Val.lenL rfl rfl un9) ?_
    refine TA.tk 3 15 rfl rfl rfl (Val.rem rfl rfl (by decide) (r := ((l.length % 8 : Nat) : Int)) (rem_nat _ 8)) ?_
    refine TA.tk 4 31 rfl rfl rfl (Val.sub rfl rfl (r := ((7 - l.length % 8 : Nat) : Int)) (by rw [w_i64 (by omega) (by omega)]; omega)) ?_
    refine TA.tk 8 287 rfl rfl rfl (Val.move rfl) ?_
    refine TA.tk 9 799 rfl rfl rfl (Val.lenL rfl rfl un9) ?_
    refine TA.tk 10 1823 rfl rfl rfl (Val.convI rfl iu3 in5 w_b8) ?_
    refine TA.two 5 11 (by kernel_rfl) ?_ ?_
    · skip
      refine TO.dz 1855 (some 30) rfl rfl rfl rfl (Does.makeSlice (n := 7 - l.length % 8) (c := 7 - l.length % 8) rfl rfl sl37 sz5 by5 ze5 rfl rfl rfl (by omega) (by omega) (by omega)) ?_
      rintro _ _ ⟨bz, rfl, rfl⟩
      refine roK ?_
      refine TA.two 6 11 (by kernel_rfl) ?_ ?_
      · skip
        refine TO.dz 1919 (some 31) rfl rfl rfl rfl (Val.does (Val.b2s (l := List.replicate (7 - l.length % 8) 0) rfl us37 ui5 un9 (by simp) (rdS_z (i := 0) rfl))) ?_
        rintro _ _ ⟨rfl, rfl⟩
        refine roK ?_
        refine TA.tk 7 2047 rfl rfl rfl (Val.addL rfl rfl (by first | omega | (simp <;> omega))) ?_
        refine TA.one 11 (by kernel_rfl) ?_
        refine TO.dz 4095 (some 36) rfl rfl rfl rfl (Does.buildSlice sl37 sz5 ze5 (by decide) (by decide) rfl rfl rfl) ?_
        rintro _ _ ⟨b2, rfl, rfl⟩
        refine roK ?_
        refine TA.one 12 (by kernel_rfl) ?_
        refine TO.dz 8191 (some 37) rfl rfl rfl rfl (Val.does (Val.b2s (l := [Go.X.b8 l.length]) rfl us37 ui5 un9 rfl (.some (Rd.get (i := 0) rfl rfl)))) ?_
        rintro _ _ ⟨rfl, rfl⟩
        refine roK ?_
        refine TA.tk 13 16383 rfl rfl rfl (Val.addL rfl rfl (by first | omega | (simp <;> omega))) ?_
        refine TA.tk 14 32767 rfl rfl rfl (Val.assign rfl) ?_
        refine TA.done (by kernel_rfl) ?_
        refine AtX.join () ?_ (Sub.cons rfl (Sub.cons rfl (Sub.nil _))) ro_s
        trivial
      · skip
        refine TO.dz 3903 (some 36) rfl rfl rfl rfl (Does.buildSlice sl37 sz5 ze5 (by decide) (by decide) rfl rfl rfl) ?_
        rintro _ _ ⟨b3, rfl, rfl⟩
        refine roK ?_
        refine TA.two 6 12 (by kernel_rfl) ?_ ?_
        · skip
          refine TO.dz 3967 (some 31) rfl rfl rfl rfl (Val.does (Val.b2s (l := List.replicate (7 - l.length % 8) 0) rfl us37 ui5 un9 (by simp) (rdS_z (i := 1) rfl))) ?_
          rintro _ _ ⟨rfl, rfl⟩
          refine roK ?_
          refine TA.tk 7 4095 rfl rfl rfl (Val.addL rfl rfl (by first | omega | (simp <;> omega))) ?_
          refine TA.one 12 (by kernel_rfl) ?_
          refine TO.dz 8191 (some 37) rfl rfl rfl rfl (Val.does (Val.b2s (l := [Go.X.b8 l.length]) rfl us37 ui5 un9 rfl (.some (Rd.get (i := 0) rfl rfl)))) ?_
          rintro _ _ ⟨rfl, rfl⟩
          refine roK ?_
          refine TA.tk 13 16383 rfl rfl rfl (Val.addL rfl rfl (by first | omega | (simp <;> omega))) ?_
          refine TA.tk 14 32767 rfl rfl rfl (Val.assign rfl) ?_
          refine TA.done (by kernel_rfl) ?_
          refine AtX.join () ?_ (Sub.cons rfl (Sub.cons rfl (Sub.nil _))) ro_s
          trivial
        · skip
          refine TO.dz 7999 (some 37) rfl rfl rfl rfl (Val.does (Val.b2s (l := [Go.X.b8 l.length]) rfl us37 ui5 un9 rfl (.some (Rd.get (i := 0) rfl rfl)))) ?_
          rintro _ _ ⟨rfl, rfl⟩
          refine roK ?_
          refine TA.one 6 (by kernel_rfl) ?_
          refine TO.dz 8063 (some 31) rfl rfl rfl rfl (Val.does (Val.b2s (l := List.replicate (7 - l.length % 8) 0) rfl us37 ui5 un9 (by simp) (rdS_z (i := 1) rfl))) ?_
          rintro _ _ ⟨rfl, rfl⟩
          refine roK ?_
          refine TA.tk 7 8191 rfl rfl rfl (Val.addL rfl rfl (by first | omega | (simp <;> omega))) ?_
          refine TA.tk 13 16383 rfl rfl rfl (Val.addL rfl rfl (by first | omega | (simp <;> omega))) ?_
          refine TA.tk 14 32767 rfl rfl rfl (Val.assign rfl) ?_
          refine TA.done (by kernel_rfl) ?_
          refine AtX.join () ?_ (Sub.cons rfl (Sub.cons rfl (Sub.nil _))) ro_s
          trivial
    · skip
      refine TO.dz 3871 (some 36) rfl rfl rfl rfl (Does.buildSlice sl37 sz5 ze5 (by decide) (by decide) rfl rfl rfl) ?_
      rintro _ _ ⟨b4, rfl, rfl⟩
      refine roK ?_
      refine TA.two 5 12 (by kernel_rfl) ?_ ?_
      · skip
        refine TO.dz 3903 (some 30) rfl rfl rfl rfl (Does.makeSlice (n := 7 - l.length % 8) (c := 7 - l.length % 8) rfl rfl sl37 sz5 by5 ze5 rfl rfl rfl (by omega) (by omega) (by omega)) ?_
        rintro _ _ ⟨bz, rfl, rfl⟩
        refine roK ?_
        refine TA.two 6 12 (by kernel_rfl) ?_ ?_
        · skip
          refine TO.dz 3967 (some 31) rfl rfl rfl rfl (Val.does (Val.b2s (l := List.replicate (7 - l.length % 8) 0) rfl us37 ui5 un9 (by simp) (rdS_z (i := 0) rfl))) ?_
          rintro _ _ ⟨rfl, rfl⟩
          refine roK ?_
          refine TA.tk 7 4095 rfl rfl rfl (Val.addL rfl rfl (by first | omega | (simp <;> omega))) ?_
          refine TA.one 12 (by kernel_rfl) ?_
          refine TO.dz 8191 (some 37) rfl rfl rfl rfl (Val.does (Val.b2s (l := [Go.X.b8 l.length]) rfl us37 ui5 un9 rfl (.some (Rd.get (i := 1) rfl rfl)))) ?_
          rintro _ _ ⟨rfl, rfl⟩
          refine roK ?_
          refine TA.tk 13 16383 rfl rfl rfl (Val.addL rfl rfl (by first | omega | (simp <;> omega))) ?_
          refine TA.tk 14 32767 rfl rfl rfl (Val.assign rfl) ?_
          refine TA.done (by kernel_rfl) ?_
          refine AtX.join () ?_ (Sub.cons rfl (Sub.cons rfl (Sub.nil _))) ro_s
          trivial
        · skip
          refine TO.dz 7999 (some 37) rfl rfl rfl rfl (Val.does (Val.b2s (l := [Go.X.b8 l.length]) rfl us37 ui5 un9 rfl (.some (Rd.get (i := 1) rfl rfl)))) ?_
          rintro _ _ ⟨rfl, rfl⟩
          refine roK ?_
          refine TA.one 6 (by kernel_rfl) ?_
          refine TO.dz 8063 (some 31) rfl rfl rfl rfl (Val.does (Val.b2s (l := List.replicate (7 - l.length % 8) 0) rfl us37 ui5 un9 (by simp) (rdS_z (i := 0) rfl))) ?_
          rintro _ _ ⟨rfl, rfl⟩
          refine roK ?_
          refine TA.tk 7 8191 rfl rfl rfl (Val.addL rfl rfl (by first | omega | (simp <;> omega))) ?_
          refine TA.tk 13 16383 rfl rfl rfl (Val.addL rfl rfl (by first | omega | (simp <;> omega))) ?_
          refine TA.tk 14 32767 rfl rfl rfl (Val.assign rfl) ?_
          refine TA.done (by kernel_rfl) ?_
          refine AtX.join () ?_ (Sub.cons rfl (Sub.cons rfl (Sub.nil _))) ro_s
          trivial
      · skip
        refine TO.dz 7967 (some 37) rfl rfl rfl rfl (Val.does (Val.b2s (l := [Go.X.b8 l.length]) rfl us37 ui5 un9 rfl (.some (Rd.get (i := 0) rfl rfl)))) ?_
        rintro _ _ ⟨rfl, rfl⟩
        refine roK ?_
        refine TA.one 5 (by kernel_rfl) ?_
        refine TO.dz 7999 (some 30) rfl rfl rfl rfl (Does.makeSlice (n := 7 - l.length % 8) (c := 7 - l.length % 8) rfl rfl sl37 sz5 by5 ze5 rfl rfl rfl (by omega) (by omega) (by omega)) ?_
        rintro _ _ ⟨bz, rfl, rfl⟩
        refine roK ?_
        refine TA.one 6 (by kernel_rfl) ?_
        refine TO.dz 8063 (some 31) rfl rfl rfl rfl (Val.does (Val.b2s (l := List.replicate (7 - l.length % 8) 0) rfl us37 ui5 un9 (by simp) (rdS_z (i := 0) rfl))) ?_
        rintro _ _ ⟨rfl, rfl⟩
        refine roK ?_
        refine TA.tk 7 8191 rfl rfl rfl (Val.addL rfl rfl (by first | omega | (simp <;> omega))) ?_
        refine TA.tk 13 16383 rfl rfl rfl (Val.addL rfl rfl (by first | omega | (simp <;> omega))) ?_
        refine TA.tk 14 32767 rfl rfl rfl (Val.assign rfl) ?_
        refine TA.done (by kernel_rfl) ?_
        refine AtX.join () ?_ (Sub.cons rfl (Sub.cons rfl (Sub.nil _))) ro_s
        trivial
  · intro _ _
    have hpl := padB_len l
    refine TC.seq ?_
    refine TC.sr ?_
    refine TL.v (Val.assign rfl) ?_
    refine TL.nt ?_
    refine TC.block ?_
    refine TC.loop (ι := Nat) (fun j => [(5, .pointer (some ⟨bw, 0, none⟩)), (6, .string (ofL (padB l))), (7, .int .i64 ((8 * j : Nat) : Int))]) (fun j => (bw, .cells (wc (absorb (padB l) j (keyW k.a k.b))) 182 (0, 0)) :: M) (fun j => j ≤ l.length / 8 + 1) (fun j => l.length / 8 + 1 - j) 0 ?_ (Sub.cons rfl (Sub.cons rfl (Sub.cons rfl (Sub.nil _)))) (fun _ h => h) ?_
    · exact Nat.zero_le _
    intro j hj
    refine TC.seq ?_
    refine TC.sr ?_
    refine TL.v (Val.move rfl) ?_
    refine TL.v (Val.move rfl) ?_
    refine TL.v (Val.lenL rfl rfl un9) ?_
    refine TL.v (Val.lss rfl rfl) ?_
    refine TL.nt ?_
    refine TC.condP rfl (fun c1 => ?_) (fun c1 => ?_)
    · skip
      refine TC.skip ?_
      refine AtX.then ?_
      refine TC.seq ?_
      refine TC.block ?_
      refine TC.seq ?_
      obtain ⟨w1, hw⟩ : ∃ w1, w1 = (absorb (padB l) j (keyW k.a k.b)) := ⟨_, rfl⟩
      rw [← hw]
      refine TC.region ?_
      refine TL.v (Val.move rfl) ?_
      refine TL.v (Val.move rfl) ?_
      refine TL.d (Does.callF go119 rfl (refGet_fn (padB l) (8 * j) _ (by omega) (by omega))) ?_
      rintro _ _ ⟨rfl, rfl⟩
      skip
      refine TL.v (Val.move rfl) ?_
      refine TL.v (Val.extract rfl rfl) ?_
      refine TL.v (Val.extract rfl rfl) ?_
      refine TL.v (Val.assign rfl) ?_
      refine TL.v (Val.assign rfl) ?_
      refine TL.nt ?_
      refine TC.seq ?_
      obtain ⟨m, hm⟩ : ∃ m : Int, m = ((get8 (padB l) (8 * j) : Nat) : Int) := ⟨_, rfl⟩
      rw [← hm]
      obtain ⟨v0, hv0⟩ : ∃ v0 : W4, v0 = { w1 with d := xor64 w1.d m } := ⟨_, rfl⟩
      refine TC.region ?_
      refine TL.v (Val.indexAddrA (i := 3) rfl rfl ar182 sz24 rfl (by first | decide | omega) rfl) ?_
      refine TL.v (Val.load 0 rfl ag24 rfl rfl) ?_
      refine TL.v (Val.move rfl) ?_
      refine TL.v (Val.xor rfl rfl rfl) ?_
      refine TL.v (Val.indexAddrA (i := 3) rfl rfl ar182 sz24 rfl (by first | decide | omega) rfl) ?_
      refine TL.d (Does.store (i := 0) rfl rfl rfl sz24 rfl rfl (by first | exact Nat.le_of_ble_eq_true rfl | decide | omega) rfl rfl) ?_
      rintro _ _ ⟨rfl, rfl⟩
      refine TL.nt ?_
      refine TC.seq ?_
      refine TC.sr ?_
      refine TL.v (Val.assign rfl) ?_
      refine TL.nt ?_
      refine TC.block ?_
      refine TC.loop (ι := Nat) (fun i => [(5, .pointer (some ⟨bw, 0, none⟩)), (6, .string (ofL (padB l))), (7, .int .i64 ((8 * j : Nat) : Int)), (8, .int .u64 m), (10, .int .i64 (i : Nat))]) (fun i => (bw, .cells (wc (rounds i v0)) 182 (0, 0)) :: M) (fun i => i ≤ 2) (fun i => 2 - i) 0 ?_ (Sub.cons rfl (Sub.cons rfl (Sub.cons rfl (Sub.cons rfl (Sub.cons rfl (Sub.nil _)))))) (fun w h => by rw [hv0]; exact h) ?_
      · exact Nat.zero_le _
      intro i hi
      refine TC.seq ?_
      refine TC.sr ?_
      refine TL.v (Val.move rfl) ?_
      refine TL.v (Val.lss rfl rfl) ?_
      refine TL.nt ?_
      refine TC.condP rfl (fun c2 => ?_) (fun c2 => ?_)
      · skip
        refine TC.skip ?_
        refine AtX.then ?_
        refine TC.seq ?_
        refine TC.block ?_
        refine TC.region ?_
        refine TL.v (Val.indexAddrA (i := 0) rfl rfl ar182 sz24 rfl (by first | decide | omega) rfl) ?_
        refine TL.v (Val.load 0 rfl ag24 rfl rfl) ?_
        refine TL.v (Val.indexAddrA (i := 1) rfl rfl ar182 sz24 rfl (by first | decide | omega) rfl) ?_
        refine TL.v (Val.load 0 rfl ag24 rfl rfl) ?_
        refine TL.v (Val.indexAddrA (i := 2) rfl rfl ar182 sz24 rfl (by first | decide | omega) rfl) ?_
        refine TL.v (Val.load 0 rfl ag24 rfl rfl) ?_
        refine TL.v (Val.indexAddrA (i := 3) rfl rfl ar182 sz24 rfl (by first | decide | omega) rfl) ?_
        refine TL.v (Val.load 0 rfl ag24 rfl rfl) ?_
        refine TL.d (Does.callF go120 rfl (refRound_fn (rounds i v0) _)) ?_
        rintro _ _ ⟨rfl, rfl⟩
        refine TL.v (Val.move rfl) ?_
        refine TL.v (Val.extract rfl rfl) ?_
        refine TL.v (Val.extract rfl rfl) ?_
        refine TL.v (Val.extract rfl rfl) ?_
        refine TL.v (Val.extract rfl rfl) ?_
        refine TL.v (Val.indexAddrA (i := 0) rfl rfl ar182 sz24 rfl (by first | decide | omega) rfl) ?_
        refine TL.d (Does.store (i := 0) rfl rfl rfl sz24 rfl rfl (by first | exact Nat.le_of_ble_eq_true rfl | decide | omega) rfl rfl) ?_
        rintro _ _ ⟨rfl, rfl⟩
        refine TL.v (Val.indexAddrA (i := 1) rfl rfl ar182 sz24 rfl (by first | decide | omega) rfl) ?_
        refine TL.d (Does.store (i := 0) rfl rfl rfl sz24 rfl rfl (by first | exact Nat.le_of_ble_eq_true rfl | decide | omega) rfl rfl) ?_
        rintro _ _ ⟨rfl, rfl⟩
        refine TL.v (Val.indexAddrA (i := 2) rfl rfl ar182 sz24 rfl (by first | decide | omega) rfl) ?_
        refine TL.d (Does.store (i := 0) rfl rfl rfl sz24 rfl rfl (by first | exact Nat.le_of_ble_eq_true rfl | decide | omega) rfl rfl) ?_
        rintro _ _ ⟨rfl, rfl⟩
        refine TL.v (Val.indexAddrA (i := 3) rfl rfl ar182 sz24 rfl (by first | decide | omega) rfl) ?_
        refine TL.d (Does.store (i := 0) rfl rfl rfl sz24 rfl rfl (by first | exact Nat.le_of_ble_eq_true rfl | decide | omega) rfl rfl) ?_
        rintro _ _ ⟨rfl, rfl⟩
        refine TL.nil ?_
        refine AtX.blk ?_
        refine AtX.then ?_
        refine TC.region ?_
        refine TL.v (Val.move rfl) ?_
        refine TL.v (Val.add rfl rfl (w_i64 (by omega) (by omega))) ?_
        refine TL.v (Val.assign rfl) ?_
        refine TL.nil ?_
        refine AtX.round (i + 1) ?_ ?_ (Sub.cons rfl (Sub.cons rfl (Sub.cons rfl (Sub.cons rfl (Sub.cons rfl (Sub.nil _)))))) (fun _ h => h)
        · omega
        · omega
      · skip
        refine TC.exit ?_
        refine AtX.seqX ?_
        refine AtX.seqX ?_
        refine AtX.hit ?_
        refine AtX.then ?_
        have hi2 : i = 2 := by omega
        subst hi2
        refine TC.region ?_
        refine TL.v (Val.indexAddrA (i := 0) rfl rfl ar182 sz24 rfl (by first | decide | omega) rfl) ?_
        refine TL.v (Val.load 0 rfl ag24 rfl rfl) ?_
        refine TL.v (Val.move rfl) ?_
        refine TL.v (Val.xor rfl rfl rfl) ?_
        refine TL.v (Val.indexAddrA (i := 0) rfl rfl ar182 sz24 rfl (by first | decide | omega) rfl) ?_
        refine TL.d (Does.store (i := 0) rfl rfl rfl sz24 rfl rfl (by first | exact Nat.le_of_ble_eq_true rfl | decide | omega) rfl rfl) ?_
        rintro _ _ ⟨rfl, rfl⟩
        refine TL.nil ?_
        refine AtX.blk ?_
        refine AtX.then ?_
        refine TC.region ?_
        refine TL.v (Val.move rfl) ?_
        refine TL.v (Val.add rfl rfl (r := ((8 * (j + 1) : Nat) : Int)) (by rw [w_i64 (by omega) (by omega)]; omega)) ?_
        refine TL.v (Val.assign rfl) ?_
        refine TL.nil ?_
        refine AtX.round (j + 1) ?_ ?_ (Sub.cons rfl (Sub.cons rfl (Sub.cons rfl (Sub.nil _)))) (fun w h => by rw [absorb, ← hm, takeW_eq (show rounds 2 { (absorb (padB l) j (keyW k.a k.b)) with d := xor64 (absorb (padB l) j (keyW k.a k.b)).d m } = rounds 2 v0 from by rw [hv0, hw])]; exact h)
        · omega
        · omega
    · skip
      refine TC.exit ?_
      refine AtX.seqX ?_
      refine AtX.seqX ?_
      refine AtX.hit ?_
      refine AtX.then ?_
      refine TC.seq ?_
      have hjw : j = l.length / 8 + 1 := by omega
      subst hjw
      obtain ⟨w1, hw⟩ : ∃ w1, w1 = absorb (padB l) (l.length / 8 + 1) (keyW k.a k.b) := ⟨_, rfl⟩
      rw [← hw]
      obtain ⟨v0, hv0⟩ : ∃ v0 : W4, v0 = { w1 with c := xor64 w1.c 255 } := ⟨_, rfl⟩
      refine TC.region ?_
      refine TL.v (Val.indexAddrA (i := 2) rfl rfl ar182 sz24 rfl (by first | decide | omega) rfl) ?_
      refine TL.v (Val.load 0 rfl ag24 rfl rfl) ?_
      refine TL.v (Val.xor rfl rfl rfl) ?_
      refine TL.v (Val.indexAddrA (i := 2) rfl rfl ar182 sz24 rfl (by first | decide | omega) rfl) ?_
      refine TL.d (Does.store (i := 0) rfl rfl rfl sz24 rfl rfl (by first | exact Nat.le_of_ble_eq_true rfl | decide | omega) rfl rfl) ?_
      rintro _ _ ⟨rfl, rfl⟩
      refine TL.nt ?_
      refine TC.en (E' := [(5, _)]) ?_
      refine TC.seq ?_
      refine TC.sr ?_
      refine TL.v (Val.assign rfl) ?_
      refine TL.nt ?_
      refine TC.block ?_
      refine TC.loop (ι := Nat) (fun i => [(5, .pointer (some ⟨bw, 0, none⟩)), (11, .int .i64 (i : Nat))]) (fun i => (bw, .cells (wc (rounds i v0)) 182 (0, 0)) :: M) (fun i => i ≤ 4) (fun i => 4 - i) 0 ?_ (Sub.cons rfl (Sub.cons rfl (Sub.nil _))) (fun w h => by rw [hv0]; exact h) ?_
      · exact Nat.zero_le _
      intro i hi
      refine TC.seq ?_
      refine TC.sr ?_
      refine TL.v (Val.move rfl) ?_
      refine TL.v (Val.lss rfl rfl) ?_
      refine TL.nt ?_
      refine TC.condP rfl (fun c3 => ?_) (fun c3 => ?_)
      · skip
        refine TC.skip ?_
        refine AtX.then ?_
        refine TC.seq ?_
        refine TC.block ?_
        refine TC.region ?_
        refine TL.v (Val.indexAddrA (i := 0) rfl rfl ar182 sz24 rfl (by first | decide | omega) rfl) ?_
        refine TL.v (Val.load 0 rfl ag24 rfl rfl) ?_
        refine TL.v (Val.indexAddrA (i := 1) rfl rfl ar182 sz24 rfl (by first | decide | omega) rfl) ?_
        refine TL.v (Val.load 0 rfl ag24 rfl rfl) ?_
        refine TL.v (Val.indexAddrA (i := 2) rfl rfl ar182 sz24 rfl (by first | decide | omega) rfl) ?_
        refine TL.v (Val.load 0 rfl ag24 rfl rfl) ?_
        refine TL.v (Val.indexAddrA (i := 3) rfl rfl ar182 sz24 rfl (by first | decide | omega) rfl) ?_
        refine TL.v (Val.load 0 rfl ag24 rfl rfl) ?_
        refine TL.d (Does.callF go120 rfl (refRound_fn (rounds i v0) _)) ?_
        rintro _ _ ⟨rfl, rfl⟩
        refine TL.v (Val.move rfl) ?_
        refine TL.v (Val.extract rfl rfl) ?_
        refine TL.v (Val.extract rfl rfl) ?_
        refine TL.v (Val.extract rfl rfl) ?_
        refine TL.v (Val.extract rfl rfl) ?_
        refine TL.v (Val.indexAddrA (i := 0) rfl rfl ar182 sz24 rfl (by first | decide | omega) rfl) ?_
        refine TL.d (Does.store (i := 0) rfl rfl rfl sz24 rfl rfl (by first | exact Nat.le_of_ble_eq_true rfl | decide | omega) rfl rfl) ?_
        rintro _ _ ⟨rfl, rfl⟩
        refine TL.v (Val.indexAddrA (i := 1) rfl rfl ar182 sz24 rfl (by first | decide | omega) rfl) ?_
        refine TL.d (Does.store (i := 0) rfl rfl rfl sz24 rfl rfl (by first | exact Nat.le_of_ble_eq_true rfl | decide | omega) rfl rfl) ?_
        rintro _ _ ⟨rfl, rfl⟩
        refine TL.v (Val.indexAddrA (i := 2) rfl rfl ar182 sz24 rfl (by first | decide | omega) rfl) ?_
        refine TL.d (Does.store (i := 0) rfl rfl rfl sz24 rfl rfl (by first | exact Nat.le_of_ble_eq_true rfl | decide | omega) rfl rfl) ?_
        rintro _ _ ⟨rfl, rfl⟩
        refine TL.v (Val.indexAddrA (i := 3) rfl rfl ar182 sz24 rfl (by first | decide | omega) rfl) ?_
        refine TL.d (Does.store (i := 0) rfl rfl rfl sz24 rfl rfl (by first | exact Nat.le_of_ble_eq_true rfl | decide | omega) rfl rfl) ?_
        rintro _ _ ⟨rfl, rfl⟩
        refine TL.nil ?_
        refine AtX.blk ?_
        refine AtX.then ?_
        refine TC.region ?_
        refine TL.v (Val.move rfl) ?_
        refine TL.v (Val.add rfl rfl (w_i64 (by omega) (by omega))) ?_
        refine TL.v (Val.assign rfl) ?_
        refine TL.nil ?_
        refine AtX.round (i + 1) ?_ ?_ (Sub.cons rfl (Sub.cons rfl (Sub.nil _))) (fun _ h => h)
        · omega
        · omega
      · skip
        refine TC.exit ?_
        refine AtX.seqX ?_
        refine AtX.seqX ?_
        refine AtX.hit ?_
        refine AtX.then ?_
        refine TC.seq ?_
        have hi4 : i = 4 := by omega
        subst hi4
        refine TC.region ?_
        refine TL.v (Val.indexAddrA (i := 0) rfl rfl ar182 sz24 rfl (by first | decide | omega) rfl) ?_
        refine TL.v (Val.load 0 rfl ag24 rfl rfl) ?_
        refine TL.v (Val.indexAddrA (i := 1) rfl rfl ar182 sz24 rfl (by first | decide | omega) rfl) ?_
        refine TL.v (Val.load 0 rfl ag24 rfl rfl) ?_
        refine TL.v (Val.xor rfl rfl rfl) ?_
        refine TL.v (Val.indexAddrA (i := 2) rfl rfl ar182 sz24 rfl (by first | decide | omega) rfl) ?_
        refine TL.v (Val.load 0 rfl ag24 rfl rfl) ?_
        refine TL.v (Val.xor rfl rfl rfl) ?_
        refine TL.v (Val.indexAddrA (i := 3) rfl rfl ar182 sz24 rfl (by first | decide | omega) rfl) ?_
        refine TL.v (Val.load 0 rfl ag24 rfl rfl) ?_
        refine TL.v (Val.xor rfl rfl rfl) ?_
        refine TL.v (Val.assign rfl) ?_
        refine TL.nt ?_
        refine TC.en (E' := [(4, _)]) ?_
        refine TC.r1 (M' := M) (fn := Try.f112) (fun _ _ h => h) rfl (RV.tmp rfl) ?_
        refine ⟨?_, rfl⟩
        rw [← sum_pad, ← hw, endW_eq (show rounds 4 { w1 with c := xor64 w1.c 255 } = rounds 4 v0 from by rw [hv0])]
        rfl

end Go.Proofs.Ytphoapajlcaoeaa
/- walks -/
set_option linter.unusedVariables false
set_option linter.unusedSimpArgs false
set_option maxRecDepth 100000
set_option maxHeartbeats 4000000
namespace Go.Proofs.Ytphoapajlcaoeaa
open Go Go.X
/-- quorumite/quorumiteref1.Tag -/
theorem refTag_fn (k : K2) (l : List UInt8) (M : Hp) (hl : l.length ≤ 1000) : FnC Try.prog 93 #[.agg #[.int .u64 k.a, .int .u64 k.b], .string (ofL l)] M (fun v M' => v = .agg #[.int .u64 (tagOf k l).a, .int .u64 (tagOf k l).b] ∧ M = M') := by
  refine FnC.intro Try.func93 rfl 17 rfl (by simp) (fun z => ?_)
  refine TC.env (E' := [(0, _), (1, _)]) (Sub.cons rfl (Sub.cons rfl (Sub.nil _))) ?_
  refine TC.sr ?_
  refine TL.d (Does.box rfl rfl) ?_
  rintro _ _ ⟨b1, rfl, rfl⟩
  refine TL.d (Does.alloc ze73 rfl) ?_
  rintro _ _ ⟨b2, rfl, rfl⟩
  refine TL.nt ?_
  refine TC.seq ?_
  refine TC.drawL ((b1, .cells #[.int .u64 k.a, .int .u64 k.b] 69 (0, 0)) :: M) mixed 13 ?_
  refine TA.tk 0 1 rfl rfl rfl (Val.loadAgg 0 rfl ag69 sz69 rfl rfl rfl) ?_ (hro := ro_s)
  refine TA.tk 1 3 rfl rfl rfl (Val.move rfl) ?_ (hro := ro_s)
  refine TA.tk 3 11 rfl rfl rfl (Val.indexAddrA (i := 1) rfl rfl ar69 sz24 rfl (by first | decide | omega) rfl) ?_ (hro := ro_s)
  refine TA.tk 4 27 rfl rfl rfl (Val.load 0 rfl ag24 rfl rfl) ?_ (hro := ro_s)
  refine TA.tk 5 59 rfl rfl rfl (Val.indexAddrA (i := 0) rfl rfl ar69 sz24 rfl (by first | decide | omega) rfl) ?_ (hro := ro_s)
  refine TA.tk 6 123 rfl rfl rfl (Val.load 0 rfl ag24 rfl rfl) ?_ (hro := ro_s)
  refine TA.tk 7 251 rfl rfl rfl (Val.xorU rfl (r := not64 k.a) rfl) ?_ (hro := ro_s)
  refine TA.tk 8 507 rfl rfl rfl (Val.buildA ar69 sz24 ze69 rfl rfl) ?_ (hro := ro_s)
  refine TA.tk 9 1019 rfl rfl rfl (Val.move rfl) ?_ (hro := ro_s)
  refine TA.one 2 (by kernel_rfl) ?_
  refine TO.dz 1023 (some 7) rfl rfl rfl rfl (Does.callF go112 rfl (refSip_fn k l _ hl)) ?_
  rintro _ _ ⟨rfl, rfl⟩
  refine ⟨ro_s, ?_⟩
  refine TA.one 10 (by kernel_rfl) ?_
  refine TO.dz 2047 (some 15) rfl rfl rfl rfl (Does.callF go112 rfl (refSip_fn ⟨k.b, not64 k.a⟩ l _ hl)) ?_
  rintro _ _ ⟨rfl, rfl⟩
  refine ⟨ro_s, ?_⟩
  refine TA.tk 11 4095 rfl rfl rfl (Val.buildA ar73 sz24 ze73 rfl rfl) ?_ (hro := ro_s)
  refine TA.one 12 (by kernel_rfl) ?_
  refine TO.dz 8191 none rfl rfl rfl rfl (Does.store (i := 0) rfl rfl rfl sz73 rfl rfl (by first | exact Nat.le_of_ble_eq_true rfl | decide | omega) rfl rfl) ?_
  rintro _ _ ⟨rfl, rfl⟩
  refine ⟨ro_s, ?_⟩
  refine TA.done (by kernel_rfl) ?_
  refine AtX.then ?_
  refine TC.en (E' := [(4, _)]) ?_
  refine TC.r1 (M' := M) (fn := Try.f93) (fun _ _ h => h) rfl (RV.agg (i := 0) rfl ag73 sz73 rfl rfl rfl) ?_
  exact ⟨rfl, rfl⟩

/-- quorumite/quorumiteref1.TagBytes -/
theorem refTagB_fn (t : K2) (M : Hp) : FnC Try.prog 92 #[.agg #[.int .u64 t.a, .int .u64 t.b]] M (fun v M' => v = .string (ofL (tagB t)) ∧ M = M') := by
  refine FnC.intro Try.func92 rfl 10 rfl (by simp) (fun z => ?_)
  refine TC.env (E' := [(0, _)]) (Sub.cons rfl (Sub.nil _)) ?_
  refine TC.sr ?_
  refine TL.d (Does.box rfl rfl) ?_
  rintro _ _ ⟨b1, rfl, rfl⟩
  refine TL.v (Val.assign rfl) ?_
  refine TL.nt ?_
  refine TC.seq ?_
  refine TC.drawLM mixed 8 ?_
  refine TA.tk 0 1 rfl rfl rfl (Val.indexAddrA (i := 0) rfl rfl ar73 sz24 rfl (by first | decide | omega) rfl) ?_ (hro := ro_s)
  refine TA.tk 1 3 rfl rfl rfl (Val.load 0 rfl ag24 rfl rfl) ?_ (hro := ro_s)
  refine TA.tk 3 11 rfl rfl rfl (Val.indexAddrA (i := 1) rfl rfl ar73 sz24 rfl (by first | decide | omega) rfl) ?_ (hro := ro_s)
  refine TA.tk 4 27 rfl rfl rfl (Val.load 0 rfl ag24 rfl rfl) ?_ (hro := ro_s)
  refine TA.one 2 (by kernel_rfl) ?_
  refine TO.dz 31 (some 5) rfl rfl rfl rfl (Does.callF go111 rfl (refPut_fn _ _)) ?_
  rintro _ _ ⟨rfl, rfl⟩
  refine ⟨ro_s, ?_⟩
  refine TA.one 5 (by kernel_rfl) ?_
  refine TO.dz 63 (some 8) rfl rfl rfl rfl (Does.callF go111 rfl (refPut_fn _ _)) ?_
  rintro _ _ ⟨rfl, rfl⟩
  refine ⟨ro_s, ?_⟩
  refine TA.tk 6 127 rfl rfl rfl (Val.addL rfl rfl (by first | omega | (simp <;> omega))) ?_ (hro := ro_s)
  refine TA.tk 7 255 rfl rfl rfl (Val.assign rfl) ?_ (hro := ro_s)
  refine TA.done (by kernel_rfl) ?_
  refine AtX.then ?_
  refine TC.en (E' := [(2, _)]) ?_
  refine TC.r1 (M' := M) (fn := Try.f92) (fun _ _ h => h) rfl (RV.tmp rfl) ?_
  exact ⟨rfl, rfl⟩

/-- quorumite/quorumiteref1.Derive -/
theorem refDerive_fn (k : K2) (lab : List UInt8) (n : Int) (M : Hp) (hlab : lab.length ≤ 100) : FnC Try.prog 94 #[.agg #[.int .u64 k.a, .int .u64 k.b], .string (ofL lab), .int .u64 n] M (fun v M' => v = .agg #[.int .u64 (deriveK k lab n).a, .int .u64 (deriveK k lab n).b] ∧ M = M') := by
  refine FnC.intro Try.func94 rfl 26 rfl (by simp) (fun z => ?_)
  refine TC.env (E' := [(0, _), (1, _), (2, _)]) (Sub.cons rfl (Sub.cons rfl (Sub.cons rfl (Sub.nil _)))) ?_
  refine TC.sr ?_
  refine TL.d (Does.box rfl rfl) ?_
  rintro _ _ ⟨b1, rfl, rfl⟩
  refine TL.d (Does.alloc ze69 rfl) ?_
  rintro _ _ ⟨bR_, rfl, rfl⟩
  refine TL.nt ?_
  refine TC.join (ι := Unit) (fun _ => [(6, .pointer (some ⟨bR_, 0, none⟩))]) (fun _ => (bR_, .cells #[.int .u64 (deriveK k lab n).a, .int .u64 (deriveK k lab n).b] 69 (0, 0)) :: M) (fun _ => True) ?_ ?_
  · skip
    refine TC.drawL ((b1, .cells #[.int .u64 k.a, .int .u64 k.b] 69 (0, 0)) :: M) mixed 20 ?_
    refine TA.tk 0 1 rfl rfl rfl (Val.loadAgg 0 rfl ag69 sz69 rfl rfl rfl) ?_ (hro := ro_s)
    refine TA.tk 1 3 rfl rfl rfl (Val.move rfl) ?_ (hro := ro_s)
    refine TA.tk 5 35 rfl rfl rfl (Val.move rfl) ?_ (hro := ro_s)
    refine TA.tk 9 547 rfl rfl rfl (Val.loadAgg 0 rfl ag69 sz69 rfl rfl rfl) ?_ (hro := ro_s)
    refine TA.tk 10 1571 rfl rfl rfl (Val.move rfl) ?_ (hro := ro_s)
    refine TA.tk 14 17955 rfl rfl rfl (Val.move rfl) ?_ (hro := ro_s)
    refine TA.three 2 6 11 (by kernel_rfl) ?_ ?_ ?_
    · skip
      refine TO.dz 17959 (some 9) rfl rfl rfl rfl (Does.buildSlice sl37 sz5 ze5 (by decide) (by decide) rfl rfl rfl) ?_
      rintro _ _ ⟨b2, rfl, rfl⟩
      refine ⟨ro_s, ?_⟩
      refine TA.three 3 6 11 (by kernel_rfl) ?_ ?_ ?_
      · skip
        refine TO.dz 17967 (some 10) rfl rfl rfl rfl (Val.does (Val.b2s (l := [1]) rfl us37 ui5 un9 rfl (.some (Rd.get (i := 0) rfl rfl)))) ?_
        rintro _ _ ⟨rfl, rfl⟩
        refine ⟨ro_s, ?_⟩
        refine TA.tk 4 17983 rfl rfl rfl (Val.addL (b := [1]) rfl rfl (by simp; omega)) ?_ (hro := ro_s)
        refine TA.two 6 11 (by kernel_rfl) ?_ ?_
        · skip
          refine TO.dz 18047 (some 13) rfl rfl rfl rfl (Does.callF go111 rfl (refPut_fn _ _)) ?_
          rintro _ _ ⟨rfl, rfl⟩
          refine ⟨ro_s, ?_⟩
          refine TA.tk 7 18175 rfl rfl rfl (Val.addL rfl rfl (by first | omega | (simp <;> omega))) ?_ (hro := ro_s)
          refine TA.two 8 11 (by kernel_rfl) ?_ ?_
          · skip
            refine TO.dz 18431 (some 15) rfl rfl rfl rfl (Does.callF go112 rfl (refSip_fn k (lab ++ [1] ++ put8 n) _ (by simp; omega))) ?_
            rintro _ _ ⟨rfl, rfl⟩
            refine ⟨ro_s, ?_⟩
            refine TA.two 11 15 (by kernel_rfl) ?_ ?_
            · skip
              refine TO.dz 20479 (some 18) rfl rfl rfl rfl (Does.buildSlice sl37 sz5 ze5 (by decide) (by decide) rfl rfl rfl) ?_
              rintro _ _ ⟨b4, rfl, rfl⟩
              refine ⟨ro_s, ?_⟩
              refine TA.two 12 15 (by kernel_rfl) ?_ ?_
              · skip
                refine TO.dz 24575 (some 19) rfl rfl rfl rfl (Val.does (Val.b2s (l := [2]) rfl us37 ui5 un9 rfl (.some (Rd.get (i := 0) rfl rfl)))) ?_
                rintro _ _ ⟨rfl, rfl⟩
                refine ⟨ro_s, ?_⟩
                refine TA.tk 13 32767 rfl rfl rfl (Val.addL (b := [2]) rfl rfl (by simp; omega)) ?_ (hro := ro_s)
                refine TA.one 15 (by kernel_rfl) ?_
                refine TO.dz 65535 (some 22) rfl rfl rfl rfl (Does.callF go111 rfl (refPut_fn _ _)) ?_
                rintro _ _ ⟨rfl, rfl⟩
                refine ⟨ro_s, ?_⟩
                refine TA.tk 16 131071 rfl rfl rfl (Val.addL rfl rfl (by first | omega | (simp <;> omega))) ?_ (hro := ro_s)
                refine TA.one 17 (by kernel_rfl) ?_
                refine TO.dz 262143 (some 24) rfl rfl rfl rfl (Does.callF go112 rfl (refSip_fn k (lab ++ [2] ++ put8 n) _ (by simp; omega))) ?_
                rintro _ _ ⟨rfl, rfl⟩
                refine ⟨ro_s, ?_⟩
                refine TA.tk 18 524287 rfl rfl rfl (Val.buildA ar69 sz24 ze69 rfl rfl) ?_ (hro := ro_s)
                refine TA.one 19 (by kernel_rfl) ?_
                refine TO.dz 1048575 none rfl rfl rfl rfl (Does.store (i := 2) rfl rfl rfl sz69 rfl rfl (by first | exact Nat.le_of_ble_eq_true rfl | decide | omega) rfl rfl) ?_
                rintro _ _ ⟨rfl, rfl⟩
                refine ⟨ro_s, ?_⟩
                refine TA.done (by kernel_rfl) ?_
                refine AtX.join () ?_ (Sub.cons rfl (Sub.nil _)) ro_s
                trivial
              · skip
                refine TO.dz 53247 (some 22) rfl rfl rfl rfl (Does.callF go111 rfl (refPut_fn _ _)) ?_
                rintro _ _ ⟨rfl, rfl⟩
                refine ⟨ro_s, ?_⟩
                refine TA.one 12 (by kernel_rfl) ?_
                refine TO.dz 57343 (some 19) rfl rfl rfl rfl (Val.does (Val.b2s (l := [2]) rfl us37 ui5 un9 rfl (.some (Rd.get (i := 0) rfl rfl)))) ?_
                rintro _ _ ⟨rfl, rfl⟩
                refine ⟨ro_s, ?_⟩
                refine TA.tk 13 65535 rfl rfl rfl (Val.addL (b := [2]) rfl rfl (by simp; omega)) ?_ (hro := ro_s)
                refine TA.tk 16 131071 rfl rfl rfl (Val.addL rfl rfl (by first | omega | (simp <;> omega))) ?_ (hro := ro_s)
                refine TA.one 17 (by kernel_rfl) ?_
                refine TO.dz 262143 (some 24) rfl rfl rfl rfl (Does.callF go112 rfl (refSip_fn k (lab ++ [2] ++ put8 n) _ (by simp; omega))) ?_
                rintro _ _ ⟨rfl, rfl⟩
                refine ⟨ro_s, ?_⟩
                refine TA.tk 18 524287 rfl rfl rfl (Val.buildA ar69 sz24 ze69 rfl rfl) ?_ (hro := ro_s)
                refine TA.one 19 (by kernel_rfl) ?_
                refine TO.dz 1048575 none rfl rfl rfl rfl (Does.store (i := 2) rfl rfl rfl sz69 rfl rfl (by first | exact Nat.le_of_ble_eq_true rfl | decide | omega) rfl rfl) ?_
                rintro _ _ ⟨rfl, rfl⟩
                refine ⟨ro_s, ?_⟩
                refine TA.done (by kernel_rfl) ?_
                refine AtX.join () ?_ (Sub.cons rfl (Sub.nil _)) ro_s
                trivial
            · skip
              refine TO.dz 51199 (some 22) rfl rfl rfl rfl (Does.callF go111 rfl (refPut_fn _ _)) ?_
              rintro _ _ ⟨rfl, rfl⟩
              refine ⟨ro_s, ?_⟩
              refine TA.one 11 (by kernel_rfl) ?_
              refine TO.dz 53247 (some 18) rfl rfl rfl rfl (Does.buildSlice sl37 sz5 ze5 (by decide) (by decide) rfl rfl rfl) ?_
              rintro _ _ ⟨b8, rfl, rfl⟩
              refine ⟨ro_s, ?_⟩
              refine TA.one 12 (by kernel_rfl) ?_
              refine TO.dz 57343 (some 19) rfl rfl rfl rfl (Val.does (Val.b2s (l := [2]) rfl us37 ui5 un9 rfl (.some (Rd.get (i := 0) rfl rfl)))) ?_
              rintro _ _ ⟨rfl, rfl⟩
              refine ⟨ro_s, ?_⟩
              refine TA.tk 13 65535 rfl rfl rfl (Val.addL (b := [2]) rfl rfl (by simp; omega)) ?_ (hro := ro_s)
              refine TA.tk 16 131071 rfl rfl rfl (Val.addL rfl rfl (by first | omega | (simp <;> omega))) ?_ (hro := ro_s)
              refine TA.one 17 (by kernel_rfl) ?_
              refine TO.dz 262143 (some 24) rfl rfl rfl rfl (Does.callF go112 rfl (refSip_fn k (lab ++ [2] ++ put8 n) _ (by simp; omega))) ?_
              rintro _ _ ⟨rfl, rfl⟩
              refine ⟨ro_s, ?_⟩
              refine TA.tk 18 524287 rfl rfl rfl (Val.buildA ar69 sz24 ze69 rfl rfl) ?_ (hro := ro_s)
              refine TA.one 19 (by kernel_rfl) ?_
              refine TO.dz 1048575 none rfl rfl rfl rfl (Does.store (i := 2) rfl rfl rfl sz69 rfl rfl (by first | exact Nat.le_of_ble_eq_true rfl | decide | omega) rfl rfl) ?_
              rintro _ _ ⟨rfl, rfl⟩
              refine ⟨ro_s, ?_⟩
              refine TA.done (by kernel_rfl) ?_
              refine AtX.join () ?_ (Sub.cons rfl (Sub.nil _)) ro_s
              trivial
          · skip
            refine TO.dz 20223 (some 18) rfl rfl rfl rfl (Does.buildSlice sl37 sz5 ze5 (by decide) (by decide) rfl rfl rfl) ?_
            rintro _ _ ⟨b9, rfl, rfl⟩
            refine ⟨ro_s, ?_⟩
            refine TA.two 8 12 (by kernel_rfl) ?_ ?_
            · skip
              refine TO.dz 20479 (some 15) rfl rfl rfl rfl (Does.callF go112 rfl (refSip_fn k (lab ++ [1] ++ put8 n) _ (by simp; omega))) ?_
              rintro _ _ ⟨rfl, rfl⟩
              refine ⟨ro_s, ?_⟩
              refine TA.two 12 15 (by kernel_rfl) ?_ ?_
              · skip
                refine TO.dz 24575 (some 19) rfl rfl rfl rfl (Val.does (Val.b2s (l := [2]) rfl us37 ui5 un9 rfl (.some (Rd.get (i := 0) rfl rfl)))) ?_
                rintro _ _ ⟨rfl, rfl⟩
                refine ⟨ro_s, ?_⟩
                refine TA.tk 13 32767 rfl rfl rfl (Val.addL (b := [2]) rfl rfl (by simp; omega)) ?_ (hro := ro_s)
                refine TA.one 15 (by kernel_rfl) ?_
                refine TO.dz 65535 (some 22) rfl rfl rfl rfl (Does.callF go111 rfl (refPut_fn _ _)) ?_
                rintro _ _ ⟨rfl, rfl⟩
                refine ⟨ro_s, ?_⟩
                refine TA.tk 16 131071 rfl rfl rfl (Val.addL rfl rfl (by first | omega | (simp <;> omega))) ?_ (hro := ro_s)
                refine TA.one 17 (by kernel_rfl) ?_
                refine TO.dz 262143 (some 24) rfl rfl rfl rfl (Does.callF go112 rfl (refSip_fn k (lab ++ [2] ++ put8 n) _ (by simp; omega))) ?_
                rintro _ _ ⟨rfl, rfl⟩
                refine ⟨ro_s, ?_⟩
                refine TA.tk 18 524287 rfl rfl rfl (Val.buildA ar69 sz24 ze69 rfl rfl) ?_ (hro := ro_s)
                refine TA.one 19 (by kernel_rfl) ?_
                refine TO.dz 1048575 none rfl rfl rfl rfl (Does.store (i := 2) rfl rfl rfl sz69 rfl rfl (by first | exact Nat.le_of_ble_eq_true rfl | decide | omega) rfl rfl) ?_
                rintro _ _ ⟨rfl, rfl⟩
                refine ⟨ro_s, ?_⟩
                refine TA.done (by kernel_rfl) ?_
                refine AtX.join () ?_ (Sub.cons rfl (Sub.nil _)) ro_s
                trivial
              · skip
                refine TO.dz 53247 (some 22) rfl rfl rfl rfl (Does.callF go111 rfl (refPut_fn _ _)) ?_
                rintro _ _ ⟨rfl, rfl⟩
                refine ⟨ro_s, ?_⟩
                refine TA.one 12 (by kernel_rfl) ?_
                refine TO.dz 57343 (some 19) rfl rfl rfl rfl (Val.does (Val.b2s (l := [2]) rfl us37 ui5 un9 rfl (.some (Rd.get (i := 0) rfl rfl)))) ?_
                rintro _ _ ⟨rfl, rfl⟩
                refine ⟨ro_s, ?_⟩
                refine TA.tk 13 65535 rfl rfl rfl (Val.addL (b := [2]) rfl rfl (by simp; omega)) ?_ (hro := ro_s)
                refine TA.tk 16 131071 rfl rfl rfl (Val.addL rfl rfl (by first | omega | (simp <;> omega))) ?_ (hro := ro_s)
                refine TA.one 17 (by kernel_rfl) ?_
                refine TO.dz 262143 (some 24) rfl rfl rfl rfl (Does.callF go112 rfl (refSip_fn k (lab ++ [2] ++ put8 n) _ (by simp; omega))) ?_
                rintro _ _ ⟨rfl, rfl⟩
                refine ⟨ro_s, ?_⟩
                refine TA.tk 18 524287 rfl rfl rfl (Val.buildA ar69 sz24 ze69 rfl rfl) ?_ (hro := ro_s)
                refine TA.one 19 (by kernel_rfl) ?_
                refine TO.dz 1048575 none rfl rfl rfl rfl (Does.store (i := 2) rfl rfl rfl sz69 rfl rfl (by first | exact Nat.le_of_ble_eq_true rfl | decide | omega) rfl rfl) ?_
                rintro _ _ ⟨rfl, rfl⟩
                refine ⟨ro_s, ?_⟩
                refine TA.done (by kernel_rfl) ?_
                refine AtX.join () ?_ (Sub.cons rfl (Sub.nil _)) ro_s
                trivial
            · skip
              refine TO.dz 24319 (some 19) rfl rfl rfl rfl (Val.does (Val.b2s (l := [2]) rfl us37 ui5 un9 rfl (.some (Rd.get (i := 0) rfl rfl)))) ?_
              rintro _ _ ⟨rfl, rfl⟩
              refine ⟨ro_s, ?_⟩
              refine TA.tk 13 32511 rfl rfl rfl (Val.addL (b := [2]) rfl rfl (by simp; omega)) ?_ (hro := ro_s)
              refine TA.one 8 (by kernel_rfl) ?_
              refine TO.dz 32767 (some 15) rfl rfl rfl rfl (Does.callF go112 rfl (refSip_fn k (lab ++ [1] ++ put8 n) _ (by simp; omega))) ?_
              rintro _ _ ⟨rfl, rfl⟩
              refine ⟨ro_s, ?_⟩
              refine TA.one 15 (by kernel_rfl) ?_
              refine TO.dz 65535 (some 22) rfl rfl rfl rfl (Does.callF go111 rfl (refPut_fn _ _)) ?_
              rintro _ _ ⟨rfl, rfl⟩
              refine ⟨ro_s, ?_⟩
              refine TA.tk 16 131071 rfl rfl rfl (Val.addL rfl rfl (by first | omega | (simp <;> omega))) ?_ (hro := ro_s)
              refine TA.one 17 (by kernel_rfl) ?_
              refine TO.dz 262143 (some 24) rfl rfl rfl rfl (Does.callF go112 rfl (refSip_fn k (lab ++ [2] ++ put8 n) _ (by simp; omega))) ?_
              rintro _ _ ⟨rfl, rfl⟩
              refine ⟨ro_s, ?_⟩
              refine TA.tk 18 524287 rfl rfl rfl (Val.buildA ar69 sz24 ze69 rfl rfl) ?_ (hro := ro_s)
              refine TA.one 19 (by kernel_rfl) ?_
              refine TO.dz 1048575 none rfl rfl rfl rfl (Does.store (i := 2) rfl rfl rfl sz69 rfl rfl (by first | exact Nat.le_of_ble_eq_true rfl | decide | omega) rfl rfl) ?_
              rintro _ _ ⟨rfl, rfl⟩
              refine ⟨ro_s, ?_⟩
              refine TA.done (by kernel_rfl) ?_
              refine AtX.join () ?_ (Sub.cons rfl (Sub.nil _)) ro_s
              trivial
        · skip
          refine TO.dz 20031 (some 18) rfl rfl rfl rfl (Does.buildSlice sl37 sz5 ze5 (by decide) (by decide) rfl rfl rfl) ?_
          rintro _ _ ⟨b13, rfl, rfl⟩
          refine ⟨ro_s, ?_⟩
          refine TA.two 6 12 (by kernel_rfl) ?_ ?_
          · skip
            refine TO.dz 20095 (some 13) rfl rfl rfl rfl (Does.callF go111 rfl (refPut_fn _ _)) ?_
            rintro _ _ ⟨rfl, rfl⟩
            refine ⟨ro_s, ?_⟩
            refine TA.tk 7 20223 rfl rfl rfl (Val.addL rfl rfl (by first | omega | (simp <;> omega))) ?_ (hro := ro_s)
            refine TA.two 8 12 (by kernel_rfl) ?_ ?_
            · skip
              refine TO.dz 20479 (some 15) rfl rfl rfl rfl (Does.callF go112 rfl (refSip_fn k (lab ++ [1] ++ put8 n) _ (by simp; omega))) ?_
              rintro _ _ ⟨rfl, rfl⟩
              refine ⟨ro_s, ?_⟩
              refine TA.two 12 15 (by kernel_rfl) ?_ ?_
              · skip
                refine TO.dz 24575 (some 19) rfl rfl rfl rfl (Val.does (Val.b2s (l := [2]) rfl us37 ui5 un9 rfl (.some (Rd.get (i := 0) rfl rfl)))) ?_
                rintro _ _ ⟨rfl, rfl⟩
                refine ⟨ro_s, ?_⟩
                refine TA.tk 13 32767 rfl rfl rfl (Val.addL (b := [2]) rfl rfl (by simp; omega)) ?_ (hro := ro_s)
                refine TA.one 15 (by kernel_rfl) ?_
                refine TO.dz 65535 (some 22) rfl rfl rfl rfl (Does.callF go111 rfl (refPut_fn _ _)) ?_
                rintro _ _ ⟨rfl, rfl⟩
                refine ⟨ro_s, ?_⟩
                refine TA.tk 16 131071 rfl rfl rfl (Val.addL rfl rfl (by first | omega | (simp <;> omega))) ?_ (hro := ro_s)
                refine TA.one 17 (by kernel_rfl) ?_
                refine TO.dz 262143 (some 24) rfl rfl rfl rfl (Does.callF go112 rfl (refSip_fn k (lab ++ [2] ++ put8 n) _ (by simp; omega))) ?_
                rintro _ _ ⟨rfl, rfl⟩
                refine ⟨ro_s, ?_⟩
                refine TA.tk 18 524287 rfl rfl rfl (Val.buildA ar69 sz24 ze69 rfl rfl) ?_ (hro := ro_s)
                refine TA.one 19 (by kernel_rfl) ?_
                refine TO.dz 1048575 none rfl rfl rfl rfl (Does.store (i := 2) rfl rfl rfl sz69 rfl rfl (by first | exact Nat.le_of_ble_eq_true rfl | decide | omega) rfl rfl) ?_
                rintro _ _ ⟨rfl, rfl⟩
                refine ⟨ro_s, ?_⟩
                refine TA.done (by kernel_rfl) ?_
                refine AtX.join () ?_ (Sub.cons rfl (Sub.nil _)) ro_s
                trivial
              · skip
                refine TO.dz 53247 (some 22) rfl rfl rfl rfl (Does.callF go111 rfl (refPut_fn _ _)) ?_
                rintro _ _ ⟨rfl, rfl⟩
                refine ⟨ro_s, ?_⟩
                refine TA.one 12 (by kernel_rfl) ?_
                refine TO.dz 57343 (some 19) rfl rfl rfl rfl (Val.does (Val.b2s (l := [2]) rfl us37 ui5 un9 rfl (.some (Rd.get (i := 0) rfl rfl)))) ?_
                rintro _ _ ⟨rfl, rfl⟩
                refine ⟨ro_s, ?_⟩
                refine TA.tk 13 65535 rfl rfl rfl (Val.addL (b := [2]) rfl rfl (by simp; omega)) ?_ (hro := ro_s)
                refine TA.tk 16 131071 rfl rfl rfl (Val.addL rfl rfl (by first | omega | (simp <;> omega))) ?_ (hro := ro_s)
                refine TA.one 17 (by kernel_rfl) ?_
                refine TO.dz 262143 (some 24) rfl rfl rfl rfl (Does.callF go112 rfl (refSip_fn k (lab ++ [2] ++ put8 n) _ (by simp; omega))) ?_
                rintro _ _ ⟨rfl, rfl⟩
                refine ⟨ro_s, ?_⟩
                refine TA.tk 18 524287 rfl rfl rfl (Val.buildA ar69 sz24 ze69 rfl rfl) ?_ (hro := ro_s)
                refine TA.one 19 (by kernel_rfl) ?_
                refine TO.dz 1048575 none rfl rfl rfl rfl (Does.store (i := 2) rfl rfl rfl sz69 rfl rfl (by first | exact Nat.le_of_ble_eq_true rfl | decide | omega) rfl rfl) ?_
                rintro _ _ ⟨rfl, rfl⟩
                refine ⟨ro_s, ?_⟩
                refine TA.done (by kernel_rfl) ?_
                refine AtX.join () ?_ (Sub.cons rfl (Sub.nil _)) ro_s
                trivial
            · skip
              refine TO.dz 24319 (some 19) rfl rfl rfl rfl (Val.does (Val.b2s (l := [2]) rfl us37 ui5 un9 rfl (.some (Rd.get (i := 0) rfl rfl)))) ?_
              rintro _ _ ⟨rfl, rfl⟩
              refine ⟨ro_s, ?_⟩
              refine TA.tk 13 32511 rfl rfl rfl (Val.addL (b := [2]) rfl rfl (by simp; omega)) ?_ (hro := ro_s)
              refine TA.one 8 (by kernel_rfl) ?_
              refine TO.dz 32767 (some 15) rfl rfl rfl rfl (Does.callF go112 rfl (refSip_fn k (lab ++ [1] ++ put8 n) _ (by simp; omega))) ?_
              rintro _ _ ⟨rfl, rfl⟩
              refine ⟨ro_s, ?_⟩
              refine TA.one 15 (by kernel_rfl) ?_
              refine TO.dz 65535 (some 22) rfl rfl rfl rfl (Does.callF go111 rfl (refPut_fn _ _)) ?_
              rintro _ _ ⟨rfl, rfl⟩
              refine ⟨ro_s, ?_⟩
              refine TA.tk 16 131071 rfl rfl rfl (Val.addL rfl rfl (by first | omega | (simp <;> omega))) ?_ (hro := ro_s)
              refine TA.one 17 (by kernel_rfl) ?_
              refine TO.dz 262143 (some 24) rfl rfl rfl rfl (Does.callF go112 rfl (refSip_fn k (lab ++ [2] ++ put8 n) _ (by simp; omega))) ?_
              rintro _ _ ⟨rfl, rfl⟩
              refine ⟨ro_s, ?_⟩
              refine TA.tk 18 524287 rfl rfl rfl (Val.buildA ar69 sz24 ze69 rfl rfl) ?_ (hro := ro_s)
              refine TA.one 19 (by kernel_rfl) ?_
              refine TO.dz 1048575 none rfl rfl rfl rfl (Does.store (i := 2) rfl rfl rfl sz69 rfl rfl (by first | exact Nat.le_of_ble_eq_true rfl | decide | omega) rfl rfl) ?_
              rintro _ _ ⟨rfl, rfl⟩
              refine ⟨ro_s, ?_⟩
              refine TA.done (by kernel_rfl) ?_
              refine AtX.join () ?_ (Sub.cons rfl (Sub.nil _)) ro_s
              trivial
          · skip
            refine TO.dz 24127 (some 19) rfl rfl rfl rfl (Val.does (Val.b2s (l := [2]) rfl us37 ui5 un9 rfl (.some (Rd.get (i := 0) rfl rfl)))) ?_
            rintro _ _ ⟨rfl, rfl⟩
            refine ⟨ro_s, ?_⟩
            refine TA.tk 13 32319 rfl rfl rfl (Val.addL (b := [2]) rfl rfl (by simp; omega)) ?_ (hro := ro_s)
            refine TA.one 6 (by kernel_rfl) ?_
            refine TO.dz 32383 (some 13) rfl rfl rfl rfl (Does.callF go111 rfl (refPut_fn _ _)) ?_
            rintro _ _ ⟨rfl, rfl⟩
            refine ⟨ro_s, ?_⟩
            refine TA.tk 7 32511 rfl rfl rfl (Val.addL rfl rfl (by first | omega | (simp <;> omega))) ?_ (hro := ro_s)
            refine TA.one 8 (by kernel_rfl) ?_
            refine TO.dz 32767 (some 15) rfl rfl rfl rfl (Does.callF go112 rfl (refSip_fn k (lab ++ [1] ++ put8 n) _ (by simp; omega))) ?_
            rintro _ _ ⟨rfl, rfl⟩
            refine ⟨ro_s, ?_⟩
            refine TA.one 15 (by kernel_rfl) ?_
            refine TO.dz 65535 (some 22) rfl rfl rfl rfl (Does.callF go111 rfl (refPut_fn _ _)) ?_
            rintro _ _ ⟨rfl, rfl⟩
            refine ⟨ro_s, ?_⟩
            refine TA.tk 16 131071 rfl rfl rfl (Val.addL rfl rfl (by first | omega | (simp <;> omega))) ?_ (hro := ro_s)
            refine TA.one 17 (by kernel_rfl) ?_
            refine TO.dz 262143 (some 24) rfl rfl rfl rfl (Does.callF go112 rfl (refSip_fn k (lab ++ [2] ++ put8 n) _ (by simp; omega))) ?_
            rintro _ _ ⟨rfl, rfl⟩
            refine ⟨ro_s, ?_⟩
            refine TA.tk 18 524287 rfl rfl rfl (Val.buildA ar69 sz24 ze69 rfl rfl) ?_ (hro := ro_s)
            refine TA.one 19 (by kernel_rfl) ?_
            refine TO.dz 1048575 none rfl rfl rfl rfl (Does.store (i := 2) rfl rfl rfl sz69 rfl rfl (by first | exact Nat.le_of_ble_eq_true rfl | decide | omega) rfl rfl) ?_
            rintro _ _ ⟨rfl, rfl⟩
            refine ⟨ro_s, ?_⟩
            refine TA.done (by kernel_rfl) ?_
            refine AtX.join () ?_ (Sub.cons rfl (Sub.nil _)) ro_s
            trivial
      · skip
        refine TO.dz 18023 (some 13) rfl rfl rfl rfl (Does.callF go111 rfl (refPut_fn _ _)) ?_
        rintro _ _ ⟨rfl, rfl⟩
        refine ⟨ro_s, ?_⟩
        refine TA.two 3 11 (by kernel_rfl) ?_ ?_
        · skip
          refine TO.dz 18031 (some 10) rfl rfl rfl rfl (Val.does (Val.b2s (l := [1]) rfl us37 ui5 un9 rfl (.some (Rd.get (i := 0) rfl rfl)))) ?_
          rintro _ _ ⟨rfl, rfl⟩
          refine ⟨ro_s, ?_⟩
          refine TA.tk 4 18047 rfl rfl rfl (Val.addL (b := [1]) rfl rfl (by simp; omega)) ?_ (hro := ro_s)
          refine TA.tk 7 18175 rfl rfl rfl (Val.addL rfl rfl (by first | omega | (simp <;> omega))) ?_ (hro := ro_s)
          refine TA.two 8 11 (by kernel_rfl) ?_ ?_
          · skip
            refine TO.dz 18431 (some 15) rfl rfl rfl rfl (Does.callF go112 rfl (refSip_fn k (lab ++ [1] ++ put8 n) _ (by simp; omega))) ?_
            rintro _ _ ⟨rfl, rfl⟩
            refine ⟨ro_s, ?_⟩
            refine TA.two 11 15 (by kernel_rfl) ?_ ?_
            · skip
              refine TO.dz 20479 (some 18) rfl rfl rfl rfl (Does.buildSlice sl37 sz5 ze5 (by decide) (by decide) rfl rfl rfl) ?_
              rintro _ _ ⟨b21, rfl, rfl⟩
              refine ⟨ro_s, ?_⟩
              refine TA.two 12 15 (by kernel_rfl) ?_ ?_
              · skip
                refine TO.dz 24575 (some 19) rfl rfl rfl rfl (Val.does (Val.b2s (l := [2]) rfl us37 ui5 un9 rfl (.some (Rd.get (i := 0) rfl rfl)))) ?_
                rintro _ _ ⟨rfl, rfl⟩
                refine ⟨ro_s, ?_⟩
                refine TA.tk 13 32767 rfl rfl rfl (Val.addL (b := [2]) rfl rfl (by simp; omega)) ?_ (hro := ro_s)
                refine TA.one 15 (by kernel_rfl) ?_
                refine TO.dz 65535 (some 22) rfl rfl rfl rfl (Does.callF go111 rfl (refPut_fn _ _)) ?_
                rintro _ _ ⟨rfl, rfl⟩
                refine ⟨ro_s, ?_⟩
                refine TA.tk 16 131071 rfl rfl rfl (Val.addL rfl rfl (by first | omega | (simp <;> omega))) ?_ (hro := ro_s)
                refine TA.one 17 (by kernel_rfl) ?_
                refine TO.dz 262143 (some 24) rfl rfl rfl rfl (Does.callF go112 rfl (refSip_fn k (lab ++ [2] ++ put8 n) _ (by simp; omega))) ?_
                rintro _ _ ⟨rfl, rfl⟩
                refine ⟨ro_s, ?_⟩
                refine TA.tk 18 524287 rfl rfl rfl (Val.buildA ar69 sz24 ze69 rfl rfl) ?_ (hro := ro_s)
                refine TA.one 19 (by kernel_rfl) ?_
                refine TO.dz 1048575 none rfl rfl rfl rfl (Does.store (i := 2) rfl rfl rfl sz69 rfl rfl (by first | exact Nat.le_of_ble_eq_true rfl | decide | omega) rfl rfl) ?_
                rintro _ _ ⟨rfl, rfl⟩
                refine ⟨ro_s, ?_⟩
                refine TA.done (by kernel_rfl) ?_
                refine AtX.join () ?_ (Sub.cons rfl (Sub.nil _)) ro_s
                trivial
              · skip
                refine TO.dz 53247 (some 22) rfl rfl rfl rfl (Does.callF go111 rfl (refPut_fn _ _)) ?_
                rintro _ _ ⟨rfl, rfl⟩
                refine ⟨ro_s, ?_⟩
                refine TA.one 12 (by kernel_rfl) ?_
                refine TO.dz 57343 (some 19) rfl rfl rfl rfl (Val.does (Val.b2s (l := [2]) rfl us37 ui5 un9 rfl (.some (Rd.get (i := 0) rfl rfl)))) ?_
                rintro _ _ ⟨rfl, rfl⟩
                refine ⟨ro_s, ?_⟩
                refine TA.tk 13 65535 rfl rfl rfl (Val.addL (b := [2]) rfl rfl (by simp; omega)) ?_ (hro := ro_s)
                refine TA.tk 16 131071 rfl rfl rfl (Val.addL rfl rfl (by first | omega | (simp <;> omega))) ?_ (hro := ro_s)
                refine TA.one 17 (by kernel_rfl) ?_
                refine TO.dz 262143 (some 24) rfl rfl rfl rfl (Does.callF go112 rfl (refSip_fn k (lab ++ [2] ++ put8 n) _ (by simp; omega))) ?_
                rintro _ _ ⟨rfl, rfl⟩
                refine ⟨ro_s, ?_⟩
                refine TA.tk 18 524287 rfl rfl rfl (Val.buildA ar69 sz24 ze69 rfl rfl) ?_ (hro := ro_s)
                refine TA.one 19 (by kernel_rfl) ?_
                refine TO.dz 1048575 none rfl rfl rfl rfl (Does.store (i := 2) rfl rfl rfl sz69 rfl rfl (by first | exact Nat.le_of_ble_eq_true rfl | decide | omega) rfl rfl) ?_
                rintro _ _ ⟨rfl, rfl⟩
                refine ⟨ro_s, ?_⟩
                refine TA.done (by kernel_rfl) ?_
                refine AtX.join () ?_ (Sub.cons rfl (Sub.nil _)) ro_s
                trivial
            · skip
              refine TO.dz 51199 (some 22) rfl rfl rfl rfl (Does.callF go111 rfl (refPut_fn _ _)) ?_
              rintro _ _ ⟨rfl, rfl⟩
              refine ⟨ro_s, ?_⟩
              refine TA.one 11 (by kernel_rfl) ?_
              refine TO.dz 53247 (some 18) rfl rfl rfl rfl (Does.buildSlice sl37 sz5 ze5 (by decide) (by decide) rfl rfl rfl) ?_
              rintro _ _ ⟨b25, rfl, rfl⟩
              refine ⟨ro_s, ?_⟩
              refine TA.one 12 (by kernel_rfl) ?_
              refine TO.dz 57343 (some 19) rfl rfl rfl rfl (Val.does (Val.b2s (l := [2]) rfl us37 ui5 un9 rfl (.some (Rd.get (i := 0) rfl rfl)))) ?_
              rintro _ _ ⟨rfl, rfl⟩
              refine ⟨ro_s, ?_⟩
              refine TA.tk 13 65535 rfl rfl rfl (Val.addL (b := [2]) rfl rfl (by simp; omega)) ?_ (hro := ro_s)
              refine TA.tk 16 131071 rfl rfl rfl (Val.addL rfl rfl (by first | omega | (simp <;> omega))) ?_ (hro := ro_s)
              refine TA.one 17 (by kernel_rfl) ?_
              refine TO.dz 262143 (some 24) rfl rfl rfl rfl (Does.callF go112 rfl (refSip_fn k (lab ++ [2] ++ put8 n) _ (by simp; omega))) ?_
              rintro _ _ ⟨rfl, rfl⟩
              refine ⟨ro_s, ?_⟩
              refine TA.tk 18 524287 rfl rfl rfl (Val.buildA ar69 sz24 ze69 rfl rfl) ?_ (hro := ro_s)
              refine TA.one 19 (by kernel_rfl) ?_
              refine TO.dz 1048575 none rfl rfl rfl rfl (Does.store (i := 2) rfl rfl rfl sz69 rfl rfl (by first | exact Nat.le_of_ble_eq_true rfl | decide | omega) rfl rfl) ?_
              rintro _ _ ⟨rfl, rfl⟩
              refine ⟨ro_s, ?_⟩
              refine TA.done (by kernel_rfl) ?_
              refine AtX.join () ?_ (Sub.cons rfl (Sub.nil _)) ro_s
              trivial
          · skip
            refine TO.dz 20223 (some 18) rfl rfl rfl rfl (Does.buildSlice sl37 sz5 ze5 (by decide) (by decide) rfl rfl rfl) ?_
            rintro _ _ ⟨b26, rfl, rfl⟩
            refine ⟨ro_s, ?_⟩
            refine TA.two 8 12 (by kernel_rfl) ?_ ?_
            · skip
              refine TO.dz 20479 (some 15) rfl rfl rfl rfl (Does.callF go112 rfl (refSip_fn k (lab ++ [1] ++ put8 n) _ (by simp; omega))) ?_
              rintro _ _ ⟨rfl, rfl⟩
              refine ⟨ro_s, ?_⟩
              refine TA.two 12 15 (by kernel_rfl) ?_ ?_
              · skip
                refine TO.dz 24575 (some 19) rfl rfl rfl rfl (Val.does (Val.b2s (l := [2]) rfl us37 ui5 un9 rfl (.some (Rd.get (i := 0) rfl rfl)))) ?_
                rintro _ _ ⟨rfl, rfl⟩
                refine ⟨ro_s, ?_⟩
                refine TA.tk 13 32767 rfl rfl rfl (Val.addL (b := [2]) rfl rfl (by simp; omega)) ?_ (hro := ro_s)
                refine TA.one 15 (by kernel_rfl) ?_
                refine TO.dz 65535 (some 22) rfl rfl rfl rfl (Does.callF go111 rfl (refPut_fn _ _)) ?_
                rintro _ _ ⟨rfl, rfl⟩
                refine ⟨ro_s, ?_⟩
                refine TA.tk 16 131071 rfl rfl rfl (Val.addL rfl rfl (by first | omega | (simp <;> omega))) ?_ (hro := ro_s)
                refine TA.one 17 (by kernel_rfl) ?_
                refine TO.dz 262143 (some 24) rfl rfl rfl rfl (Does.callF go112 rfl (refSip_fn k (lab ++ [2] ++ put8 n) _ (by simp; omega))) ?_
                rintro _ _ ⟨rfl, rfl⟩
                refine ⟨ro_s, ?_⟩
                refine TA.tk 18 524287 rfl rfl rfl (Val.buildA ar69 sz24 ze69 rfl rfl) ?_ (hro := ro_s)
                refine TA.one 19 (by kernel_rfl) ?_
                refine TO.dz 1048575 none rfl rfl rfl rfl (Does.store (i := 2) rfl rfl rfl sz69 rfl rfl (by first | exact Nat.le_of_ble_eq_true rfl | decide | omega) rfl rfl) ?_
                rintro _ _ ⟨rfl, rfl⟩
                refine ⟨ro_s, ?_⟩
                refine TA.done (by kernel_rfl) ?_
                refine AtX.join () ?_ (Sub.cons rfl (Sub.nil _)) ro_s
                trivial
              · skip
                refine TO.dz 53247 (some 22) rfl rfl rfl rfl (Does.callF go111 rfl (refPut_fn _ _)) ?_
                rintro _ _ ⟨rfl, rfl⟩
                refine ⟨ro_s, ?_⟩
                refine TA.one 12 (by kernel_rfl) ?_
                refine TO.dz 57343 (some 19) rfl rfl rfl rfl (Val.does (Val.b2s (l := [2]) rfl us37 ui5 un9 rfl (.some (Rd.get (i := 0) rfl rfl)))) ?_
                rintro _ _ ⟨rfl, rfl⟩
                refine ⟨ro_s, ?_⟩
                refine TA.tk 13 65535 rfl rfl rfl (Val.addL (b := [2]) rfl rfl (by simp; omega)) ?_ (hro := ro_s)
                refine TA.tk 16 131071 rfl rfl rfl (Val.addL rfl rfl (by first | omega | (simp <;> omega))) ?_ (hro := ro_s)
                refine TA.one 17 (by kernel_rfl) ?_
                refine TO.dz 262143 (some 24) rfl rfl rfl rfl (Does.callF go112 rfl (refSip_fn k (lab ++ [2] ++ put8 n) _ (by simp; omega))) ?_
                rintro _ _ ⟨rfl, rfl⟩
                refine ⟨ro_s, ?_⟩
                refine TA.tk 18 524287 rfl rfl rfl (Val.buildA ar69 sz24 ze69 rfl rfl) ?_ (hro := ro_s)
                refine TA.one 19 (by kernel_rfl) ?_
                refine TO.dz 1048575 none rfl rfl rfl rfl (Does.store (i := 2) rfl rfl rfl sz69 rfl rfl (by first | exact Nat.le_of_ble_eq_true rfl | decide | omega) rfl rfl) ?_
                rintro _ _ ⟨rfl, rfl⟩
                refine ⟨ro_s, ?_⟩
                refine TA.done (by kernel_rfl) ?_
                refine AtX.join () ?_ (Sub.cons rfl (Sub.nil _)) ro_s
                trivial
            · skip
              refine TO.dz 24319 (some 19) rfl rfl rfl rfl (Val.does (Val.b2s (l := [2]) rfl us37 ui5 un9 rfl (.some (Rd.get (i := 0) rfl rfl)))) ?_
              rintro _ _ ⟨rfl, rfl⟩
              refine ⟨ro_s, ?_⟩
              refine TA.tk 13 32511 rfl rfl rfl (Val.addL (b := [2]) rfl rfl (by simp; omega)) ?_ (hro := ro_s)
              refine TA.one 8 (by kernel_rfl) ?_
              refine TO.dz 32767 (some 15) rfl rfl rfl rfl (Does.callF go112 rfl (refSip_fn k (lab ++ [1] ++ put8 n) _ (by simp; omega))) ?_
              rintro _ _ ⟨rfl, rfl⟩
              refine ⟨ro_s, ?_⟩
              refine TA.one 15 (by kernel_rfl) ?_
              refine TO.dz 65535 (some 22) rfl rfl rfl rfl (Does.callF go111 rfl (refPut_fn _ _)) ?_
              rintro _ _ ⟨rfl, rfl⟩
              refine ⟨ro_s, ?_⟩
              refine TA.tk 16 131071 rfl rfl rfl (Val.addL rfl rfl (by first | omega | (simp <;> omega))) ?_ (hro := ro_s)
              refine TA.one 17 (by kernel_rfl) ?_
              refine TO.dz 262143 (some 24) rfl rfl rfl rfl (Does.callF go112 rfl (refSip_fn k (lab ++ [2] ++ put8 n) _ (by simp; omega))) ?_
              rintro _ _ ⟨rfl, rfl⟩
              refine ⟨ro_s, ?_⟩
              refine TA.tk 18 524287 rfl rfl rfl (Val.buildA ar69 sz24 ze69 rfl rfl) ?_ (hro := ro_s)
              refine TA.one 19 (by kernel_rfl) ?_
              refine TO.dz 1048575 none rfl rfl rfl rfl (Does.store (i := 2) rfl rfl rfl sz69 rfl rfl (by first | exact Nat.le_of_ble_eq_true rfl | decide | omega) rfl rfl) ?_
              rintro _ _ ⟨rfl, rfl⟩
              refine ⟨ro_s, ?_⟩
              refine TA.done (by kernel_rfl) ?_
              refine AtX.join () ?_ (Sub.cons rfl (Sub.nil _)) ro_s
              trivial
        · skip
          refine TO.dz 20071 (some 18) rfl rfl rfl rfl (Does.buildSlice sl37 sz5 ze5 (by decide) (by decide) rfl rfl rfl) ?_
          rintro _ _ ⟨b30, rfl, rfl⟩
          refine ⟨ro_s, ?_⟩
          refine TA.two 3 12 (by kernel_rfl) ?_ ?_
          · skip
            refine TO.dz 20079 (some 10) rfl rfl rfl rfl (Val.does (Val.b2s (l := [1]) rfl us37 ui5 un9 rfl (.some (Rd.get (i := 1) rfl rfl)))) ?_
            rintro _ _ ⟨rfl, rfl⟩
            refine ⟨ro_s, ?_⟩
            refine TA.tk 4 20095 rfl rfl rfl (Val.addL (b := [1]) rfl rfl (by simp; omega)) ?_ (hro := ro_s)
            refine TA.tk 7 20223 rfl rfl rfl (Val.addL rfl rfl (by first | omega | (simp <;> omega))) ?_ (hro := ro_s)
            refine TA.two 8 12 (by kernel_rfl) ?_ ?_
            · skip
              refine TO.dz 20479 (some 15) rfl rfl rfl rfl (Does.callF go112 rfl (refSip_fn k (lab ++ [1] ++ put8 n) _ (by simp; omega))) ?_
              rintro _ _ ⟨rfl, rfl⟩
              refine ⟨ro_s, ?_⟩
              refine TA.two 12 15 (by kernel_rfl) ?_ ?_
              · skip
                refine TO.dz 24575 (some 19) rfl rfl rfl rfl (Val.does (Val.b2s (l := [2]) rfl us37 ui5 un9 rfl (.some (Rd.get (i := 0) rfl rfl)))) ?_
                rintro _ _ ⟨rfl, rfl⟩
                refine ⟨ro_s, ?_⟩
                refine TA.tk 13 32767 rfl rfl rfl (Val.addL (b := [2]) rfl rfl (by simp; omega)) ?_ (hro := ro_s)
                refine TA.one 15 (by kernel_rfl) ?_
                refine TO.dz 65535 (some 22) rfl rfl rfl rfl (Does.callF go111 rfl (refPut_fn _ _)) ?_
                rintro _ _ ⟨rfl, rfl⟩
                refine ⟨ro_s, ?_⟩
                refine TA.tk 16 131071 rfl rfl rfl (Val.addL rfl rfl (by first | omega | (simp <;> omega))) ?_ (hro := ro_s)
                refine TA.one 17 (by kernel_rfl) ?_
                refine TO.dz 262143 (some 24) rfl rfl rfl rfl (Does.callF go112 rfl (refSip_fn k (lab ++ [2] ++ put8 n) _ (by simp; omega))) ?_
                rintro _ _ ⟨rfl, rfl⟩
                refine ⟨ro_s, ?_⟩
                refine TA.tk 18 524287 rfl rfl rfl (Val.buildA ar69 sz24 ze69 rfl rfl) ?_ (hro := ro_s)
                refine TA.one 19 (by kernel_rfl) ?_
                refine TO.dz 1048575 none rfl rfl rfl rfl (Does.store (i := 2) rfl rfl rfl sz69 rfl rfl (by first | exact Nat.le_of_ble_eq_true rfl | decide | omega) rfl rfl) ?_
                rintro _ _ ⟨rfl, rfl⟩
                refine ⟨ro_s, ?_⟩
                refine TA.done (by kernel_rfl) ?_
                refine AtX.join () ?_ (Sub.cons rfl (Sub.nil _)) ro_s
                trivial
              · skip
                refine TO.dz 53247 (some 22) rfl rfl rfl rfl (Does.callF go111 rfl (refPut_fn _ _)) ?_
                rintro _ _ ⟨rfl, rfl⟩
                refine ⟨ro_s, ?_⟩
                refine TA.one 12 (by kernel_rfl) ?_
                refine TO.dz 57343 (some 19) rfl rfl rfl rfl (Val.does (Val.b2s (l := [2]) rfl us37 ui5 un9 rfl (.some (Rd.get (i := 0) rfl rfl)))) ?_
                rintro _ _ ⟨rfl, rfl⟩
                refine ⟨ro_s, ?_⟩
                refine TA.tk 13 65535 rfl rfl rfl (Val.addL (b := [2]) rfl rfl (by simp; omega)) ?_ (hro := ro_s)
                refine TA.tk 16 131071 rfl rfl rfl (Val.addL rfl rfl (by first | omega | (simp <;> omega))) ?_ (hro := ro_s)
                refine TA.one 17 (by kernel_rfl) ?_
                refine TO.dz 262143 (some 24) rfl rfl rfl rfl (Does.callF go112 rfl (refSip_fn k (lab ++ [2] ++ put8 n) _ (by simp; omega))) ?_
                rintro _ _ ⟨rfl, rfl⟩
                refine ⟨ro_s, ?_⟩
                refine TA.tk 18 524287 rfl rfl rfl (Val.buildA ar69 sz24 ze69 rfl rfl) ?_ (hro := ro_s)
                refine TA.one 19 (by kernel_rfl) ?_
                refine TO.dz 1048575 none rfl rfl rfl rfl (Does.store (i := 2) rfl rfl rfl sz69 rfl rfl (by first | exact Nat.le_of_ble_eq_true rfl | decide | omega) rfl rfl) ?_
                rintro _ _ ⟨rfl, rfl⟩
                refine ⟨ro_s, ?_⟩
                refine TA.done (by kernel_rfl) ?_
                refine AtX.join () ?_ (Sub.cons rfl (Sub.nil _)) ro_s
                trivial
            · skip
              refine TO.dz 24319 (some 19) rfl rfl rfl rfl (Val.does (Val.b2s (l := [2]) rfl us37 ui5 un9 rfl (.some (Rd.get (i := 0) rfl rfl)))) ?_
              rintro _ _ ⟨rfl, rfl⟩
              refine ⟨ro_s, ?_⟩
              refine TA.tk 13 32511 rfl rfl rfl (Val.addL (b := [2]) rfl rfl (by simp; omega)) ?_ (hro := ro_s)
              refine TA.one 8 (by kernel_rfl) ?_
              refine TO.dz 32767 (some 15) rfl rfl rfl rfl (Does.callF go112 rfl (refSip_fn k (lab ++ [1] ++ put8 n) _ (by simp; omega))) ?_
              rintro _ _ ⟨rfl, rfl⟩
              refine ⟨ro_s, ?_⟩
              refine TA.one 15 (by kernel_rfl) ?_
              refine TO.dz 65535 (some 22) rfl rfl rfl rfl (Does.callF go111 rfl (refPut_fn _ _)) ?_
              rintro _ _ ⟨rfl, rfl⟩
              refine ⟨ro_s, ?_⟩
              refine TA.tk 16 131071 rfl rfl rfl (Val.addL rfl rfl (by first | omega | (simp <;> omega))) ?_ (hro := ro_s)
              refine TA.one 17 (by kernel_rfl) ?_
              refine TO.dz 262143 (some 24) rfl rfl rfl rfl (Does.callF go112 rfl (refSip_fn k (lab ++ [2] ++ put8 n) _ (by simp; omega))) ?_
              rintro _ _ ⟨rfl, rfl⟩
              refine ⟨ro_s, ?_⟩
              refine TA.tk 18 524287 rfl rfl rfl (Val.buildA ar69 sz24 ze69 rfl rfl) ?_ (hro := ro_s)
              refine TA.one 19 (by kernel_rfl) ?_
              refine TO.dz 1048575 none rfl rfl rfl rfl (Does.store (i := 2) rfl rfl rfl sz69 rfl rfl (by first | exact Nat.le_of_ble_eq_true rfl | decide | omega) rfl rfl) ?_
              rintro _ _ ⟨rfl, rfl⟩
              refine ⟨ro_s, ?_⟩
              refine TA.done (by kernel_rfl) ?_
              refine AtX.join () ?_ (Sub.cons rfl (Sub.nil _)) ro_s
              trivial
          · skip
            refine TO.dz 24167 (some 19) rfl rfl rfl rfl (Val.does (Val.b2s (l := [2]) rfl us37 ui5 un9 rfl (.some (Rd.get (i := 0) rfl rfl)))) ?_
            rintro _ _ ⟨rfl, rfl⟩
            refine ⟨ro_s, ?_⟩
            refine TA.tk 13 32359 rfl rfl rfl (Val.addL (b := [2]) rfl rfl (by simp; omega)) ?_ (hro := ro_s)
            refine TA.one 3 (by kernel_rfl) ?_
            refine TO.dz 32367 (some 10) rfl rfl rfl rfl (Val.does (Val.b2s (l := [1]) rfl us37 ui5 un9 rfl (.some (Rd.get (i := 1) rfl rfl)))) ?_
            rintro _ _ ⟨rfl, rfl⟩
            refine ⟨ro_s, ?_⟩
            refine TA.tk 4 32383 rfl rfl rfl (Val.addL (b := [1]) rfl rfl (by simp; omega)) ?_ (hro := ro_s)
            refine TA.tk 7 32511 rfl rfl rfl (Val.addL rfl rfl (by first | omega | (simp <;> omega))) ?_ (hro := ro_s)
            refine TA.one 8 (by kernel_rfl) ?_
            refine TO.dz 32767 (some 15) rfl rfl rfl rfl (Does.callF go112 rfl (refSip_fn k (lab ++ [1] ++ put8 n) _ (by simp; omega))) ?_
            rintro _ _ ⟨rfl, rfl⟩
            refine ⟨ro_s, ?_⟩
            refine TA.one 15 (by kernel_rfl) ?_
            refine TO.dz 65535 (some 22) rfl rfl rfl rfl (Does.callF go111 rfl (refPut_fn _ _)) ?_
            rintro _ _ ⟨rfl, rfl⟩
            refine ⟨ro_s, ?_⟩
            refine TA.tk 16 131071 rfl rfl rfl (Val.addL rfl rfl (by first | omega | (simp <;> omega))) ?_ (hro := ro_s)
            refine TA.one 17 (by kernel_rfl) ?_
            refine TO.dz 262143 (some 24) rfl rfl rfl rfl (Does.callF go112 rfl (refSip_fn k (lab ++ [2] ++ put8 n) _ (by simp; omega))) ?_
            rintro _ _ ⟨rfl, rfl⟩
            refine ⟨ro_s, ?_⟩
            refine TA.tk 18 524287 rfl rfl rfl (Val.buildA ar69 sz24 ze69 rfl rfl) ?_ (hro := ro_s)
            refine TA.one 19 (by kernel_rfl) ?_
            refine TO.dz 1048575 none rfl rfl rfl rfl (Does.store (i := 2) rfl rfl rfl sz69 rfl rfl (by first | exact Nat.le_of_ble_eq_true rfl | decide | omega) rfl rfl) ?_
            rintro _ _ ⟨rfl, rfl⟩
            refine ⟨ro_s, ?_⟩
            refine TA.done (by kernel_rfl) ?_
            refine AtX.join () ?_ (Sub.cons rfl (Sub.nil _)) ro_s
            trivial
      · skip
        refine TO.dz 20007 (some 18) rfl rfl rfl rfl (Does.buildSlice sl37 sz5 ze5 (by decide) (by decide) rfl rfl rfl) ?_
        rintro _ _ ⟨b35, rfl, rfl⟩
        refine ⟨ro_s, ?_⟩
        refine TA.three 3 6 12 (by kernel_rfl) ?_ ?_ ?_
        · skip
          refine TO.dz 20015 (some 10) rfl rfl rfl rfl (Val.does (Val.b2s (l := [1]) rfl us37 ui5 un9 rfl (.some (Rd.get (i := 1) rfl rfl)))) ?_
          rintro _ _ ⟨rfl, rfl⟩
          refine ⟨ro_s, ?_⟩
          refine TA.tk 4 20031 rfl rfl rfl (Val.addL (b := [1]) rfl rfl (by simp; omega)) ?_ (hro := ro_s)
          refine TA.two 6 12 (by kernel_rfl) ?_ ?_
          · skip
            refine TO.dz 20095 (some 13) rfl rfl rfl rfl (Does.callF go111 rfl (refPut_fn _ _)) ?_
            rintro _ _ ⟨rfl, rfl⟩
            refine ⟨ro_s, ?_⟩
            refine TA.tk 7 20223 rfl rfl rfl (Val.addL rfl rfl (by first | omega | (simp <;> omega))) ?_ (hro := ro_s)
            refine TA.two 8 12 (by kernel_rfl) ?_ ?_
            · skip
              refine TO.dz 20479 (some 15) rfl rfl rfl rfl (Does.callF go112 rfl (refSip_fn k (lab ++ [1] ++ put8 n) _ (by simp; omega))) ?_
              rintro _ _ ⟨rfl, rfl⟩
              refine ⟨ro_s, ?_⟩
              refine TA.two 12 15 (by kernel_rfl) ?_ ?_
              · skip
                refine TO.dz 24575 (some 19) rfl rfl rfl rfl (Val.does (Val.b2s (l := [2]) rfl us37 ui5 un9 rfl (.some (Rd.get (i := 0) rfl rfl)))) ?_
                rintro _ _ ⟨rfl, rfl⟩
                refine ⟨ro_s, ?_⟩
                refine TA.tk 13 32767 rfl rfl rfl (Val.addL (b := [2]) rfl rfl (by simp; omega)) ?_ (hro := ro_s)
                refine TA.one 15 (by kernel_rfl) ?_
                refine TO.dz 65535 (some 22) rfl rfl rfl rfl (Does.callF go111 rfl (refPut_fn _ _)) ?_
                rintro _ _ ⟨rfl, rfl⟩
                refine ⟨ro_s, ?_⟩
                refine TA.tk 16 131071 rfl rfl rfl (Val.addL rfl rfl (by first | omega | (simp <;> omega))) ?_ (hro := ro_s)
                refine TA.one 17 (by kernel_rfl) ?_
                refine TO.dz 262143 (some 24) rfl rfl rfl rfl (Does.callF go112 rfl (refSip_fn k (lab ++ [2] ++ put8 n) _ (by simp; omega))) ?_
                rintro _ _ ⟨rfl, rfl⟩
                refine ⟨ro_s, ?_⟩
                refine TA.tk 18 524287 rfl rfl rfl (Val.buildA ar69 sz24 ze69 rfl rfl) ?_ (hro := ro_s)
                refine TA.one 19 (by kernel_rfl) ?_
                refine TO.dz 1048575 none rfl rfl rfl rfl (Does.store (i := 2) rfl rfl rfl sz69 rfl rfl (by first | exact Nat.le_of_ble_eq_true rfl | decide | omega) rfl rfl) ?_
                rintro _ _ ⟨rfl, rfl⟩
                refine ⟨ro_s, ?_⟩
                refine TA.done (by kernel_rfl) ?_
                refine AtX.join () ?_ (Sub.cons rfl (Sub.nil _)) ro_s
                trivial
              · skip
                refine TO.dz 53247 (some 22) rfl rfl rfl rfl (Does.callF go111 rfl (refPut_fn _ _)) ?_
                rintro _ _ ⟨rfl, rfl⟩
                refine ⟨ro_s, ?_⟩
                refine TA.one 12 (by kernel_rfl) ?_
                refine TO.dz 57343 (some 19) rfl rfl rfl rfl (Val.does (Val.b2s (l := [2]) rfl us37 ui5 un9 rfl (.some (Rd.get (i := 0) rfl rfl)))) ?_
                rintro _ _ ⟨rfl, rfl⟩
                refine ⟨ro_s, ?_⟩
                refine TA.tk 13 65535 rfl rfl rfl (Val.addL (b := [2]) rfl rfl (by simp; omega)) ?_ (hro := ro_s)
                refine TA.tk 16 131071 rfl rfl rfl (Val.addL rfl rfl (by first | omega | (simp <;> omega))) ?_ (hro := ro_s)
                refine TA.one 17 (by kernel_rfl) ?_
                refine TO.dz 262143 (some 24) rfl rfl rfl rfl (Does.callF go112 rfl (refSip_fn k (lab ++ [2] ++ put8 n) _ (by simp; omega))) ?_
                rintro _ _ ⟨rfl, rfl⟩
                refine ⟨ro_s, ?_⟩
                refine TA.tk 18 524287 rfl rfl rfl (Val.buildA ar69 sz24 ze69 rfl rfl) ?_ (hro := ro_s)
                refine TA.one 19 (by kernel_rfl) ?_
                refine TO.dz 1048575 none rfl rfl rfl rfl (Does.store (i := 2) rfl rfl rfl sz69 rfl rfl (by first | exact Nat.le_of_ble_eq_true rfl | decide | omega) rfl rfl) ?_
                rintro _ _ ⟨rfl, rfl⟩
                refine ⟨ro_s, ?_⟩
                refine TA.done (by kernel_rfl) ?_
                refine AtX.join () ?_ (Sub.cons rfl (Sub.nil _)) ro_s
                trivial
            · skip
              refine TO.dz 24319 (some 19) rfl rfl rfl rfl (Val.does (Val.b2s (l := [2]) rfl us37 ui5 un9 rfl (.some (Rd.get (i := 0) rfl rfl)))) ?_
              rintro _ _ ⟨rfl, rfl⟩
              refine ⟨ro_s, ?_⟩
              refine TA.tk 13 32511 rfl rfl rfl (Val.addL (b := [2]) rfl rfl (by simp; omega)) ?_ (hro := ro_s)
              refine TA.one 8 (by kernel_rfl) ?_
              refine TO.dz 32767 (some 15) rfl rfl rfl rfl (Does.callF go112 rfl (refSip_fn k (lab ++ [1] ++ put8 n) _ (by simp; omega))) ?_
              rintro _ _ ⟨rfl, rfl⟩
              refine ⟨ro_s, ?_⟩
              refine TA.one 15 (by kernel_rfl) ?_
              refine TO.dz 65535 (some 22) rfl rfl rfl rfl (Does.callF go111 rfl (refPut_fn _ _)) ?_
              rintro _ _ ⟨rfl, rfl⟩
              refine ⟨ro_s, ?_⟩
              refine TA.tk 16 131071 rfl rfl rfl (Val.addL rfl rfl (by first | omega | (simp <;> omega))) ?_ (hro := ro_s)
              refine TA.one 17 (by kernel_rfl) ?_
              refine TO.dz 262143 (some 24) rfl rfl rfl rfl (Does.callF go112 rfl (refSip_fn k (lab ++ [2] ++ put8 n) _ (by simp; omega))) ?_
              rintro _ _ ⟨rfl, rfl⟩
              refine ⟨ro_s, ?_⟩
              refine TA.tk 18 524287 rfl rfl rfl (Val.buildA ar69 sz24 ze69 rfl rfl) ?_ (hro := ro_s)
              refine TA.one 19 (by kernel_rfl) ?_
              refine TO.dz 1048575 none rfl rfl rfl rfl (Does.store (i := 2) rfl rfl rfl sz69 rfl rfl (by first | exact Nat.le_of_ble_eq_true rfl | decide | omega) rfl rfl) ?_
              rintro _ _ ⟨rfl, rfl⟩
              refine ⟨ro_s, ?_⟩
              refine TA.done (by kernel_rfl) ?_
              refine AtX.join () ?_ (Sub.cons rfl (Sub.nil _)) ro_s
              trivial
          · skip
            refine TO.dz 24127 (some 19) rfl rfl rfl rfl (Val.does (Val.b2s (l := [2]) rfl us37 ui5 un9 rfl (.some (Rd.get (i := 0) rfl rfl)))) ?_
            rintro _ _ ⟨rfl, rfl⟩
            refine ⟨ro_s, ?_⟩
            refine TA.tk 13 32319 rfl rfl rfl (Val.addL (b := [2]) rfl rfl (by simp; omega)) ?_ (hro := ro_s)
            refine TA.one 6 (by kernel_rfl) ?_
            refine TO.dz 32383 (some 13) rfl rfl rfl rfl (Does.callF go111 rfl (refPut_fn _ _)) ?_
            rintro _ _ ⟨rfl, rfl⟩
            refine ⟨ro_s, ?_⟩
            refine TA.tk 7 32511 rfl rfl rfl (Val.addL rfl rfl (by first | omega | (simp <;> omega))) ?_ (hro := ro_s)
            refine TA.one 8 (by kernel_rfl) ?_
            refine TO.dz 32767 (some 15) rfl rfl rfl rfl (Does.callF go112 rfl (refSip_fn k (lab ++ [1] ++ put8 n) _ (by simp; omega))) ?_
            rintro _ _ ⟨rfl, rfl⟩
            refine ⟨ro_s, ?_⟩
            refine TA.one 15 (by kernel_rfl) ?_
            refine TO.dz 65535 (some 22) rfl rfl rfl rfl (Does.callF go111 rfl (refPut_fn _ _)) ?_
            rintro _ _ ⟨rfl, rfl⟩
            refine ⟨ro_s, ?_⟩
            refine TA.tk 16 131071 rfl rfl rfl (Val.addL rfl rfl (by first | omega | (simp <;> omega))) ?_ (hro := ro_s)
            refine TA.one 17 (by kernel_rfl) ?_
            refine TO.dz 262143 (some 24) rfl rfl rfl rfl (Does.callF go112 rfl (refSip_fn k (lab ++ [2] ++ put8 n) _ (by simp; omega))) ?_
            rintro _ _ ⟨rfl, rfl⟩
            refine ⟨ro_s, ?_⟩
            refine TA.tk 18 524287 rfl rfl rfl (Val.buildA ar69 sz24 ze69 rfl rfl) ?_ (hro := ro_s)
            refine TA.one 19 (by kernel_rfl) ?_
            refine TO.dz 1048575 none rfl rfl rfl rfl (Does.store (i := 2) rfl rfl rfl sz69 rfl rfl (by first | exact Nat.le_of_ble_eq_true rfl | decide | omega) rfl rfl) ?_
            rintro _ _ ⟨rfl, rfl⟩
            refine ⟨ro_s, ?_⟩
            refine TA.done (by kernel_rfl) ?_
            refine AtX.join () ?_ (Sub.cons rfl (Sub.nil _)) ro_s
            trivial
        · skip
          refine TO.dz 20071 (some 13) rfl rfl rfl rfl (Does.callF go111 rfl (refPut_fn _ _)) ?_
          rintro _ _ ⟨rfl, rfl⟩
          refine ⟨ro_s, ?_⟩
          refine TA.two 3 12 (by kernel_rfl) ?_ ?_
          · skip
            refine TO.dz 20079 (some 10) rfl rfl rfl rfl (Val.does (Val.b2s (l := [1]) rfl us37 ui5 un9 rfl (.some (Rd.get (i := 1) rfl rfl)))) ?_
            rintro _ _ ⟨rfl, rfl⟩
            refine ⟨ro_s, ?_⟩
            refine TA.tk 4 20095 rfl rfl rfl (Val.addL (b := [1]) rfl rfl (by simp; omega)) ?_ (hro := ro_s)
            refine TA.tk 7 20223 rfl rfl rfl (Val.addL rfl rfl (by first | omega | (simp <;> omega))) ?_ (hro := ro_s)
            refine TA.two 8 12 (by kernel_rfl) ?_ ?_
            · skip
              refine TO.dz 20479 (some 15) rfl rfl rfl rfl (Does.callF go112 rfl (refSip_fn k (lab ++ [1] ++ put8 n) _ (by simp; omega))) ?_
              rintro _ _ ⟨rfl, rfl⟩
              refine ⟨ro_s, ?_⟩
              refine TA.two 12 15 (by kernel_rfl) ?_ ?_
              · skip
                refine TO.dz 24575 (some 19) rfl rfl rfl rfl (Val.does (Val.b2s (l := [2]) rfl us37 ui5 un9 rfl (.some (Rd.get (i := 0) rfl rfl)))) ?_
                rintro _ _ ⟨rfl, rfl⟩
                refine ⟨ro_s, ?_⟩
                refine TA.tk 13 32767 rfl rfl rfl (Val.addL (b := [2]) rfl rfl (by simp; omega)) ?_ (hro := ro_s)
                refine TA.one 15 (by kernel_rfl) ?_
                refine TO.dz 65535 (some 22) rfl rfl rfl rfl (Does.callF go111 rfl (refPut_fn _ _)) ?_
                rintro _ _ ⟨rfl, rfl⟩
                refine ⟨ro_s, ?_⟩
                refine TA.tk 16 131071 rfl rfl rfl (Val.addL rfl rfl (by first | omega | (simp <;> omega))) ?_ (hro := ro_s)
                refine TA.one 17 (by kernel_rfl) ?_
                refine TO.dz 262143 (some 24) rfl rfl rfl rfl (Does.callF go112 rfl (refSip_fn k (lab ++ [2] ++ put8 n) _ (by simp; omega))) ?_
                rintro _ _ ⟨rfl, rfl⟩
                refine ⟨ro_s, ?_⟩
                refine TA.tk 18 524287 rfl rfl rfl (Val.buildA ar69 sz24 ze69 rfl rfl) ?_ (hro := ro_s)
                refine TA.one 19 (by kernel_rfl) ?_
                refine TO.dz 1048575 none rfl rfl rfl rfl (Does.store (i := 2) rfl rfl rfl sz69 rfl rfl (by first | exact Nat.le_of_ble_eq_true rfl | decide | omega) rfl rfl) ?_
                rintro _ _ ⟨rfl, rfl⟩
                refine ⟨ro_s, ?_⟩
                refine TA.done (by kernel_rfl) ?_
                refine AtX.join () ?_ (Sub.cons rfl (Sub.nil _)) ro_s
                trivial
              · skip
                refine TO.dz 53247 (some 22) rfl rfl rfl rfl (Does.callF go111 rfl (refPut_fn _ _)) ?_
                rintro _ _ ⟨rfl, rfl⟩
                refine ⟨ro_s, ?_⟩
                refine TA.one 12 (by kernel_rfl) ?_
                refine TO.dz 57343 (some 19) rfl rfl rfl rfl (Val.does (Val.b2s (l := [2]) rfl us37 ui5 un9 rfl (.some (Rd.get (i := 0) rfl rfl)))) ?_
                rintro _ _ ⟨rfl, rfl⟩
                refine ⟨ro_s, ?_⟩
                refine TA.tk 13 65535 rfl rfl rfl (Val.addL (b := [2]) rfl rfl (by simp; omega)) ?_ (hro := ro_s)
                refine TA.tk 16 131071 rfl rfl rfl (Val.addL rfl rfl (by first | omega | (simp <;> omega))) ?_ (hro := ro_s)
                refine TA.one 17 (by kernel_rfl) ?_
                refine TO.dz 262143 (some 24) rfl rfl rfl rfl (Does.callF go112 rfl (refSip_fn k (lab ++ [2] ++ put8 n) _ (by simp; omega))) ?_
                rintro _ _ ⟨rfl, rfl⟩
                refine ⟨ro_s, ?_⟩
                refine TA.tk 18 524287 rfl rfl rfl (Val.buildA ar69 sz24 ze69 rfl rfl) ?_ (hro := ro_s)
                refine TA.one 19 (by kernel_rfl) ?_
                refine TO.dz 1048575 none rfl rfl rfl rfl (Does.store (i := 2) rfl rfl rfl sz69 rfl rfl (by first | exact Nat.le_of_ble_eq_true rfl | decide | omega) rfl rfl) ?_
                rintro _ _ ⟨rfl, rfl⟩
                refine ⟨ro_s, ?_⟩
                refine TA.done (by kernel_rfl) ?_
                refine AtX.join () ?_ (Sub.cons rfl (Sub.nil _)) ro_s
                trivial
            · skip
              refine TO.dz 24319 (some 19) rfl rfl rfl rfl (Val.does (Val.b2s (l := [2]) rfl us37 ui5 un9 rfl (.some (Rd.get (i := 0) rfl rfl)))) ?_
              rintro _ _ ⟨rfl, rfl⟩
              refine ⟨ro_s, ?_⟩
              refine TA.tk 13 32511 rfl rfl rfl (Val.addL (b := [2]) rfl rfl (by simp; omega)) ?_ (hro := ro_s)
              refine TA.one 8 (by kernel_rfl) ?_
              refine TO.dz 32767 (some 15) rfl rfl rfl rfl (Does.callF go112 rfl (refSip_fn k (lab ++ [1] ++ put8 n) _ (by simp; omega))) ?_
              rintro _ _ ⟨rfl, rfl⟩
              refine ⟨ro_s, ?_⟩
              refine TA.one 15 (by kernel_rfl) ?_
              refine TO.dz 65535 (some 22) rfl rfl rfl rfl (Does.callF go111 rfl (refPut_fn _ _)) ?_
              rintro _ _ ⟨rfl, rfl⟩
              refine ⟨ro_s, ?_⟩
              refine TA.tk 16 131071 rfl rfl rfl (Val.addL rfl rfl (by first | omega | (simp <;> omega))) ?_ (hro := ro_s)
              refine TA.one 17 (by kernel_rfl) ?_
              refine TO.dz 262143 (some 24) rfl rfl rfl rfl (Does.callF go112 rfl (refSip_fn k (lab ++ [2] ++ put8 n) _ (by simp; omega))) ?_
              rintro _ _ ⟨rfl, rfl⟩
              refine ⟨ro_s, ?_⟩
              refine TA.tk 18 524287 rfl rfl rfl (Val.buildA ar69 sz24 ze69 rfl rfl) ?_ (hro := ro_s)
              refine TA.one 19 (by kernel_rfl) ?_
              refine TO.dz 1048575 none rfl rfl rfl rfl (Does.store (i := 2) rfl rfl rfl sz69 rfl rfl (by first | exact Nat.le_of_ble_eq_true rfl | decide | omega) rfl rfl) ?_
              rintro _ _ ⟨rfl, rfl⟩
              refine ⟨ro_s, ?_⟩
              refine TA.done (by kernel_rfl) ?_
              refine AtX.join () ?_ (Sub.cons rfl (Sub.nil _)) ro_s
              trivial
          · skip
            refine TO.dz 24167 (some 19) rfl rfl rfl rfl (Val.does (Val.b2s (l := [2]) rfl us37 ui5 un9 rfl (.some (Rd.get (i := 0) rfl rfl)))) ?_
            rintro _ _ ⟨rfl, rfl⟩
            refine ⟨ro_s, ?_⟩
            refine TA.tk 13 32359 rfl rfl rfl (Val.addL (b := [2]) rfl rfl (by simp; omega)) ?_ (hro := ro_s)
            refine TA.one 3 (by kernel_rfl) ?_
            refine TO.dz 32367 (some 10) rfl rfl rfl rfl (Val.does (Val.b2s (l := [1]) rfl us37 ui5 un9 rfl (.some (Rd.get (i := 1) rfl rfl)))) ?_
            rintro _ _ ⟨rfl, rfl⟩
            refine ⟨ro_s, ?_⟩
            refine TA.tk 4 32383 rfl rfl rfl (Val.addL (b := [1]) rfl rfl (by simp; omega)) ?_ (hro := ro_s)
            refine TA.tk 7 32511 rfl rfl rfl (Val.addL rfl rfl (by first | omega | (simp <;> omega))) ?_ (hro := ro_s)
            refine TA.one 8 (by kernel_rfl) ?_
            refine TO.dz 32767 (some 15) rfl rfl rfl rfl (Does.callF go112 rfl (refSip_fn k (lab ++ [1] ++ put8 n) _ (by simp; omega))) ?_
            rintro _ _ ⟨rfl, rfl⟩
            refine ⟨ro_s, ?_⟩
            refine TA.one 15 (by kernel_rfl) ?_
            refine TO.dz 65535 (some 22) rfl rfl rfl rfl (Does.callF go111 rfl (refPut_fn _ _)) ?_
            rintro _ _ ⟨rfl, rfl⟩
            refine ⟨ro_s, ?_⟩
            refine TA.tk 16 131071 rfl rfl rfl (Val.addL rfl rfl (by first | omega | (simp <;> omega))) ?_ (hro := ro_s)
            refine TA.one 17 (by kernel_rfl) ?_
            refine TO.dz 262143 (some 24) rfl rfl rfl rfl (Does.callF go112 rfl (refSip_fn k (lab ++ [2] ++ put8 n) _ (by simp; omega))) ?_
            rintro _ _ ⟨rfl, rfl⟩
            refine ⟨ro_s, ?_⟩
            refine TA.tk 18 524287 rfl rfl rfl (Val.buildA ar69 sz24 ze69 rfl rfl) ?_ (hro := ro_s)
            refine TA.one 19 (by kernel_rfl) ?_
            refine TO.dz 1048575 none rfl rfl rfl rfl (Does.store (i := 2) rfl rfl rfl sz69 rfl rfl (by first | exact Nat.le_of_ble_eq_true rfl | decide | omega) rfl rfl) ?_
            rintro _ _ ⟨rfl, rfl⟩
            refine ⟨ro_s, ?_⟩
            refine TA.done (by kernel_rfl) ?_
            refine AtX.join () ?_ (Sub.cons rfl (Sub.nil _)) ro_s
            trivial
        · skip
          refine TO.dz 24103 (some 19) rfl rfl rfl rfl (Val.does (Val.b2s (l := [2]) rfl us37 ui5 un9 rfl (.some (Rd.get (i := 0) rfl rfl)))) ?_
          rintro _ _ ⟨rfl, rfl⟩
          refine ⟨ro_s, ?_⟩
          refine TA.tk 13 32295 rfl rfl rfl (Val.addL (b := [2]) rfl rfl (by simp; omega)) ?_ (hro := ro_s)
          refine TA.two 3 6 (by kernel_rfl) ?_ ?_
          · skip
            refine TO.dz 32303 (some 10) rfl rfl rfl rfl (Val.does (Val.b2s (l := [1]) rfl us37 ui5 un9 rfl (.some (Rd.get (i := 1) rfl rfl)))) ?_
            rintro _ _ ⟨rfl, rfl⟩
            refine ⟨ro_s, ?_⟩
            refine TA.tk 4 32319 rfl rfl rfl (Val.addL (b := [1]) rfl rfl (by simp; omega)) ?_ (hro := ro_s)
            refine TA.one 6 (by kernel_rfl) ?_
            refine TO.dz 32383 (some 13) rfl rfl rfl rfl (Does.callF go111 rfl (refPut_fn _ _)) ?_
            rintro _ _ ⟨rfl, rfl⟩
            refine ⟨ro_s, ?_⟩
            refine TA.tk 7 32511 rfl rfl rfl (Val.addL rfl rfl (by first | omega | (simp <;> omega))) ?_ (hro := ro_s)
            refine TA.one 8 (by kernel_rfl) ?_
            refine TO.dz 32767 (some 15) rfl rfl rfl rfl (Does.callF go112 rfl (refSip_fn k (lab ++ [1] ++ put8 n) _ (by simp; omega))) ?_
            rintro _ _ ⟨rfl, rfl⟩
            refine ⟨ro_s, ?_⟩
            refine TA.one 15 (by kernel_rfl) ?_
            refine TO.dz 65535 (some 22) rfl rfl rfl rfl (Does.callF go111 rfl (refPut_fn _ _)) ?_
            rintro _ _ ⟨rfl, rfl⟩
            refine ⟨ro_s, ?_⟩
            refine TA.tk 16 131071 rfl rfl rfl (Val.addL rfl rfl (by first | omega | (simp <;> omega))) ?_ (hro := ro_s)
            refine TA.one 17 (by kernel_rfl) ?_
            refine TO.dz 262143 (some 24) rfl rfl rfl rfl (Does.callF go112 rfl (refSip_fn k (lab ++ [2] ++ put8 n) _ (by simp; omega))) ?_
            rintro _ _ ⟨rfl, rfl⟩
            refine ⟨ro_s, ?_⟩
            refine TA.tk 18 524287 rfl rfl rfl (Val.buildA ar69 sz24 ze69 rfl rfl) ?_ (hro := ro_s)
            refine TA.one 19 (by kernel_rfl) ?_
            refine TO.dz 1048575 none rfl rfl rfl rfl (Does.store (i := 2) rfl rfl rfl sz69 rfl rfl (by first | exact Nat.le_of_ble_eq_true rfl | decide | omega) rfl rfl) ?_
            rintro _ _ ⟨rfl, rfl⟩
            refine ⟨ro_s, ?_⟩
            refine TA.done (by kernel_rfl) ?_
            refine AtX.join () ?_ (Sub.cons rfl (Sub.nil _)) ro_s
            trivial
          · skip
            refine TO.dz 32359 (some 13) rfl rfl rfl rfl (Does.callF go111 rfl (refPut_fn _ _)) ?_
            rintro _ _ ⟨rfl, rfl⟩
            refine ⟨ro_s, ?_⟩
            refine TA.one 3 (by kernel_rfl) ?_
            refine TO.dz 32367 (some 10) rfl rfl rfl rfl (Val.does (Val.b2s (l := [1]) rfl us37 ui5 un9 rfl (.some (Rd.get (i := 1) rfl rfl)))) ?_
            rintro _ _ ⟨rfl, rfl⟩
            refine ⟨ro_s, ?_⟩
            refine TA.tk 4 32383 rfl rfl rfl (Val.addL (b := [1]) rfl rfl (by simp; omega)) ?_ (hro := ro_s)
            refine TA.tk 7 32511 rfl rfl rfl (Val.addL rfl rfl (by first | omega | (simp <;> omega))) ?_ (hro := ro_s)
            refine TA.one 8 (by kernel_rfl) ?_
            refine TO.dz 32767 (some 15) rfl rfl rfl rfl (Does.callF go112 rfl (refSip_fn k (lab ++ [1] ++ put8 n) _ (by simp; omega))) ?_
            rintro _ _ ⟨rfl, rfl⟩
            refine ⟨ro_s, ?_⟩
            refine TA.one 15 (by kernel_rfl) ?_
            refine TO.dz 65535 (some 22) rfl rfl rfl rfl (Does.callF go111 rfl (refPut_fn _ _)) ?_
            rintro _ _ ⟨rfl, rfl⟩
            refine ⟨ro_s, ?_⟩
            refine TA.tk 16 131071 rfl rfl rfl (Val.addL rfl rfl (by first | omega | (simp <;> omega))) ?_ (hro := ro_s)
            refine TA.one 17 (by kernel_rfl) ?_
            refine TO.dz 262143 (some 24) rfl rfl rfl rfl (Does.callF go112 rfl (refSip_fn k (lab ++ [2] ++ put8 n) _ (by simp; omega))) ?_
            rintro _ _ ⟨rfl, rfl⟩
            refine ⟨ro_s, ?_⟩
            refine TA.tk 18 524287 rfl rfl rfl (Val.buildA ar69 sz24 ze69 rfl rfl) ?_ (hro := ro_s)
            refine TA.one 19 (by kernel_rfl) ?_
            refine TO.dz 1048575 none rfl rfl rfl rfl (Does.store (i := 2) rfl rfl rfl sz69 rfl rfl (by first | exact Nat.le_of_ble_eq_true rfl | decide | omega) rfl rfl) ?_
            rintro _ _ ⟨rfl, rfl⟩
            refine ⟨ro_s, ?_⟩
            refine TA.done (by kernel_rfl) ?_
            refine AtX.join () ?_ (Sub.cons rfl (Sub.nil _)) ro_s
            trivial
    · skip
      refine TO.dz 18019 (some 13) rfl rfl rfl rfl (Does.callF go111 rfl (refPut_fn _ _)) ?_
      rintro _ _ ⟨rfl, rfl⟩
      refine ⟨ro_s, ?_⟩
      refine TA.two 2 11 (by kernel_rfl) ?_ ?_
      · skip
        refine TO.dz 18023 (some 9) rfl rfl rfl rfl (Does.buildSlice sl37 sz5 ze5 (by decide) (by decide) rfl rfl rfl) ?_
        rintro _ _ ⟨b52, rfl, rfl⟩
        refine ⟨ro_s, ?_⟩
        refine TA.two 3 11 (by kernel_rfl) ?_ ?_
        · skip
          refine TO.dz 18031 (some 10) rfl rfl rfl rfl (Val.does (Val.b2s (l := [1]) rfl us37 ui5 un9 rfl (.some (Rd.get (i := 0) rfl rfl)))) ?_
          rintro _ _ ⟨rfl, rfl⟩
          refine ⟨ro_s, ?_⟩
          refine TA.tk 4 18047 rfl rfl rfl (Val.addL (b := [1]) rfl rfl (by simp; omega)) ?_ (hro := ro_s)
          refine TA.tk 7 18175 rfl rfl rfl (Val.addL rfl rfl (by first | omega | (simp <;> omega))) ?_ (hro := ro_s)
          refine TA.two 8 11 (by kernel_rfl) ?_ ?_
          · skip
            refine TO.dz 18431 (some 15) rfl rfl rfl rfl (Does.callF go112 rfl (refSip_fn k (lab ++ [1] ++ put8 n) _ (by simp; omega))) ?_
            rintro _ _ ⟨rfl, rfl⟩
            refine ⟨ro_s, ?_⟩
            refine TA.two 11 15 (by kernel_rfl) ?_ ?_
            · skip
              refine TO.dz 20479 (some 18) rfl rfl rfl rfl (Does.buildSlice sl37 sz5 ze5 (by decide) (by decide) rfl rfl rfl) ?_
              rintro _ _ ⟨b53, rfl, rfl⟩
              refine ⟨ro_s, ?_⟩
              refine TA.two 12 15 (by kernel_rfl) ?_ ?_
              · skip
                refine TO.dz 24575 (some 19) rfl rfl rfl rfl (Val.does (Val.b2s (l := [2]) rfl us37 ui5 un9 rfl (.some (Rd.get (i := 0) rfl rfl)))) ?_
                rintro _ _ ⟨rfl, rfl⟩
                refine ⟨ro_s, ?_⟩
                refine TA.tk 13 32767 rfl rfl rfl (Val.addL (b := [2]) rfl rfl (by simp; omega)) ?_ (hro := ro_s)
                refine TA.one 15 (by kernel_rfl) ?_
                refine TO.dz 65535 (some 22) rfl rfl rfl rfl (Does.callF go111 rfl (refPut_fn _ _)) ?_
                rintro _ _ ⟨rfl, rfl⟩
                refine ⟨ro_s, ?_⟩
                refine TA.tk 16 131071 rfl rfl rfl (Val.addL rfl rfl (by first | omega | (simp <;> omega))) ?_ (hro := ro_s)
                refine TA.one 17 (by kernel_rfl) ?_
                refine TO.dz 262143 (some 24) rfl rfl rfl rfl (Does.callF go112 rfl (refSip_fn k (lab ++ [2] ++ put8 n) _ (by simp; omega))) ?_
                rintro _ _ ⟨rfl, rfl⟩
                refine ⟨ro_s, ?_⟩
                refine TA.tk 18 524287 rfl rfl rfl (Val.buildA ar69 sz24 ze69 rfl rfl) ?_ (hro := ro_s)
                refine TA.one 19 (by kernel_rfl) ?_
                refine TO.dz 1048575 none rfl rfl rfl rfl (Does.store (i := 2) rfl rfl rfl sz69 rfl rfl (by first | exact Nat.le_of_ble_eq_true rfl | decide | omega) rfl rfl) ?_
                rintro _ _ ⟨rfl, rfl⟩
                refine ⟨ro_s, ?_⟩
                refine TA.done (by kernel_rfl) ?_
                refine AtX.join () ?_ (Sub.cons rfl (Sub.nil _)) ro_s
                trivial
              · skip
                refine TO.dz 53247 (some 22) rfl rfl rfl rfl (Does.callF go111 rfl (refPut_fn _ _)) ?_
                rintro _ _ ⟨rfl, rfl⟩
                refine ⟨ro_s, ?_⟩
                refine TA.one 12 (by kernel_rfl) ?_
                refine TO.dz 57343 (some 19) rfl rfl rfl rfl (Val.does (Val.b2s (l := [2]) rfl us37 ui5 un9 rfl (.some (Rd.get (i := 0) rfl rfl)))) ?_
                rintro _ _ ⟨rfl, rfl⟩
                refine ⟨ro_s, ?_⟩
                refine TA.tk 13 65535 rfl rfl rfl (Val.addL (b := [2]) rfl rfl (by simp; omega)) ?_ (hro := ro_s)
                refine TA.tk 16 131071 rfl rfl rfl (Val.addL rfl rfl (by first | omega | (simp <;> omega))) ?_ (hro := ro_s)
                refine TA.one 17 (by kernel_rfl) ?_
                refine TO.dz 262143 (some 24) rfl rfl rfl rfl (Does.callF go112 rfl (refSip_fn k (lab ++ [2] ++ put8 n) _ (by simp; omega))) ?_
                rintro _ _ ⟨rfl, rfl⟩
                refine ⟨ro_s, ?_⟩
                refine TA.tk 18 524287 rfl rfl rfl (Val.buildA ar69 sz24 ze69 rfl rfl) ?_ (hro := ro_s)
                refine TA.one 19 (by kernel_rfl) ?_
                refine TO.dz 1048575 none rfl rfl rfl rfl (Does.store (i := 2) rfl rfl rfl sz69 rfl rfl (by first | exact Nat.le_of_ble_eq_true rfl | decide | omega) rfl rfl) ?_
                rintro _ _ ⟨rfl, rfl⟩
                refine ⟨ro_s, ?_⟩
                refine TA.done (by kernel_rfl) ?_
                refine AtX.join () ?_ (Sub.cons rfl (Sub.nil _)) ro_s
                trivial
            · skip
              refine TO.dz 51199 (some 22) rfl rfl rfl rfl (Does.callF go111 rfl (refPut_fn _ _)) ?_
              rintro _ _ ⟨rfl, rfl⟩
              refine ⟨ro_s, ?_⟩
              refine TA.one 11 (by kernel_rfl) ?_
              refine TO.dz 53247 (some 18) rfl rfl rfl rfl (Does.buildSlice sl37 sz5 ze5 (by decide) (by decide) rfl rfl rfl) ?_
              rintro _ _ ⟨b57, rfl, rfl⟩
              refine ⟨ro_s, ?_⟩
              refine TA.one 12 (by kernel_rfl) ?_
              refine TO.dz 57343 (some 19) rfl rfl rfl rfl (Val.does (Val.b2s (l := [2]) rfl us37 ui5 un9 rfl (.some (Rd.get (i := 0) rfl rfl)))) ?_
              rintro _ _ ⟨rfl, rfl⟩
              refine ⟨ro_s, ?_⟩
              refine TA.tk 13 65535 rfl rfl rfl (Val.addL (b := [2]) rfl rfl (by simp; omega)) ?_ (hro := ro_s)
              refine TA.tk 16 131071 rfl rfl rfl (Val.addL rfl rfl (by first | omega | (simp <;> omega))) ?_ (hro := ro_s)
              refine TA.one 17 (by kernel_rfl) ?_
              refine TO.dz 262143 (some 24) rfl rfl rfl rfl (Does.callF go112 rfl (refSip_fn k (lab ++ [2] ++ put8 n) _ (by simp; omega))) ?_
              rintro _ _ ⟨rfl, rfl⟩
              refine ⟨ro_s, ?_⟩
              refine TA.tk 18 524287 rfl rfl rfl (Val.buildA ar69 sz24 ze69 rfl rfl) ?_ (hro := ro_s)
              refine TA.one 19 (by kernel_rfl) ?_
              refine TO.dz 1048575 none rfl rfl rfl rfl (Does.store (i := 2) rfl rfl rfl sz69 rfl rfl (by first | exact Nat.le_of_ble_eq_true rfl | decide | omega) rfl rfl) ?_
              rintro _ _ ⟨rfl, rfl⟩
              refine ⟨ro_s, ?_⟩
              refine TA.done (by kernel_rfl) ?_
              refine AtX.join () ?_ (Sub.cons rfl (Sub.nil _)) ro_s
              trivial
          · skip
            refine TO.dz 20223 (some 18) rfl rfl rfl rfl (Does.buildSlice sl37 sz5 ze5 (by decide) (by decide) rfl rfl rfl) ?_
            rintro _ _ ⟨b58, rfl, rfl⟩
            refine ⟨ro_s, ?_⟩
            refine TA.two 8 12 (by kernel_rfl) ?_ ?_
            · skip
              refine TO.dz 20479 (some 15) rfl rfl rfl rfl (Does.callF go112 rfl (refSip_fn k (lab ++ [1] ++ put8 n) _ (by simp; omega))) ?_
              rintro _ _ ⟨rfl, rfl⟩
              refine ⟨ro_s, ?_⟩
              refine TA.two 12 15 (by kernel_rfl) ?_ ?_
              · skip
                refine TO.dz 24575 (some 19) rfl rfl rfl rfl (Val.does (Val.b2s (l := [2]) rfl us37 ui5 un9 rfl (.some (Rd.get (i := 0) rfl rfl)))) ?_
                rintro _ _ ⟨rfl, rfl⟩
                refine ⟨ro_s, ?_⟩
                refine TA.tk 13 32767 rfl rfl rfl (Val.addL (b := [2]) rfl rfl (by simp; omega)) ?_ (hro := ro_s)
                refine TA.one 15 (by kernel_rfl) ?_
                refine TO.dz 65535 (some 22) rfl rfl rfl rfl (Does.callF go111 rfl (refPut_fn _ _)) ?_
                rintro _ _ ⟨rfl, rfl⟩
                refine ⟨ro_s, ?_⟩
                refine TA.tk 16 131071 rfl rfl rfl (Val.addL rfl rfl (by first | omega | (simp <;> omega))) ?_ (hro := ro_s)
                refine TA.one 17 (by kernel_rfl) ?_
                refine TO.dz 262143 (some 24) rfl rfl rfl rfl (Does.callF go112 rfl (refSip_fn k (lab ++ [2] ++ put8 n) _ (by simp; omega))) ?_
                rintro _ _ ⟨rfl, rfl⟩
                refine ⟨ro_s, ?_⟩
                refine TA.tk 18 524287 rfl rfl rfl (Val.buildA ar69 sz24 ze69 rfl rfl) ?_ (hro := ro_s)
                refine TA.one 19 (by kernel_rfl) ?_
                refine TO.dz 1048575 none rfl rfl rfl rfl (Does.store (i := 2) rfl rfl rfl sz69 rfl rfl (by first | exact Nat.le_of_ble_eq_true rfl | decide | omega) rfl rfl) ?_
                rintro _ _ ⟨rfl, rfl⟩
                refine ⟨ro_s, ?_⟩
                refine TA.done (by kernel_rfl) ?_
                refine AtX.join () ?_ (Sub.cons rfl (Sub.nil _)) ro_s
                trivial
              · skip
                refine TO.dz 53247 (some 22) rfl rfl rfl rfl (Does.callF go111 rfl (refPut_fn _ _)) ?_
                rintro _ _ ⟨rfl, rfl⟩
                refine ⟨ro_s, ?_⟩
                refine TA.one 12 (by kernel_rfl) ?_
                refine TO.dz 57343 (some 19) rfl rfl rfl rfl (Val.does (Val.b2s (l := [2]) rfl us37 ui5 un9 rfl (.some (Rd.get (i := 0) rfl rfl)))) ?_
                rintro _ _ ⟨rfl, rfl⟩
                refine ⟨ro_s, ?_⟩
                refine TA.tk 13 65535 rfl rfl rfl (Val.addL (b := [2]) rfl rfl (by simp; omega)) ?_ (hro := ro_s)
                refine TA.tk 16 131071 rfl rfl rfl (Val.addL rfl rfl (by first | omega | (simp <;> omega))) ?_ (hro := ro_s)
                refine TA.one 17 (by kernel_rfl) ?_
                refine TO.dz 262143 (some 24) rfl rfl rfl rfl (Does.callF go112 rfl (refSip_fn k (lab ++ [2] ++ put8 n) _ (by simp; omega))) ?_
                rintro _ _ ⟨rfl, rfl⟩
                refine ⟨ro_s, ?_⟩
                refine TA.tk 18 524287 rfl rfl rfl (Val.buildA ar69 sz24 ze69 rfl rfl) ?_ (hro := ro_s)
                refine TA.one 19 (by kernel_rfl) ?_
                refine TO.dz 1048575 none rfl rfl rfl rfl (Does.store (i := 2) rfl rfl rfl sz69 rfl rfl (by first | exact Nat.le_of_ble_eq_true rfl | decide | omega) rfl rfl) ?_
                rintro _ _ ⟨rfl, rfl⟩
                refine ⟨ro_s, ?_⟩
                refine TA.done (by kernel_rfl) ?_
                refine AtX.join () ?_ (Sub.cons rfl (Sub.nil _)) ro_s
                trivial
            · skip
              refine TO.dz 24319 (some 19) rfl rfl rfl rfl (Val.does (Val.b2s (l := [2]) rfl us37 ui5 un9 rfl (.some (Rd.get (i := 0) rfl rfl)))) ?_
              rintro _ _ ⟨rfl, rfl⟩
              refine ⟨ro_s, ?_⟩
              refine TA.tk 13 32511 rfl rfl rfl (Val.addL (b := [2]) rfl rfl (by simp; omega)) ?_ (hro := ro_s)
              refine TA.one 8 (by kernel_rfl) ?_
              refine TO.dz 32767 (some 15) rfl rfl rfl rfl (Does.callF go112 rfl (refSip_fn k (lab ++ [1] ++ put8 n) _ (by simp; omega))) ?_
              rintro _ _ ⟨rfl, rfl⟩
              refine ⟨ro_s, ?_⟩
              refine TA.one 15 (by kernel_rfl) ?_
              refine TO.dz 65535 (some 22) rfl rfl rfl rfl (Does.callF go111 rfl (refPut_fn _ _)) ?_
              rintro _ _ ⟨rfl, rfl⟩
              refine ⟨ro_s, ?_⟩
              refine TA.tk 16 131071 rfl rfl rfl (Val.addL rfl rfl (by first | omega | (simp <;> omega))) ?_ (hro := ro_s)
              refine TA.one 17 (by kernel_rfl) ?_
              refine TO.dz 262143 (some 24) rfl rfl rfl rfl (Does.callF go112 rfl (refSip_fn k (lab ++ [2] ++ put8 n) _ (by simp; omega))) ?_
              rintro _ _ ⟨rfl, rfl⟩
              refine ⟨ro_s, ?_⟩
              refine TA.tk 18 524287 rfl rfl rfl (Val.buildA ar69 sz24 ze69 rfl rfl) ?_ (hro := ro_s)
              refine TA.one 19 (by kernel_rfl) ?_
              refine TO.dz 1048575 none rfl rfl rfl rfl (Does.store (i := 2) rfl rfl rfl sz69 rfl rfl (by first | exact Nat.le_of_ble_eq_true rfl | decide | omega) rfl rfl) ?_
              rintro _ _ ⟨rfl, rfl⟩
              refine ⟨ro_s, ?_⟩
              refine TA.done (by kernel_rfl) ?_
              refine AtX.join () ?_ (Sub.cons rfl (Sub.nil _)) ro_s
              trivial
        · skip
          refine TO.dz 20071 (some 18) rfl rfl rfl rfl (Does.buildSlice sl37 sz5 ze5 (by decide) (by decide) rfl rfl rfl) ?_
          rintro _ _ ⟨b62, rfl, rfl⟩
          refine ⟨ro_s, ?_⟩
          refine TA.two 3 12 (by kernel_rfl) ?_ ?_
          · skip
            refine TO.dz 20079 (some 10) rfl rfl rfl rfl (Val.does (Val.b2s (l := [1]) rfl us37 ui5 un9 rfl (.some (Rd.get (i := 1) rfl rfl)))) ?_
            rintro _ _ ⟨rfl, rfl⟩
            refine ⟨ro_s, ?_⟩
            refine TA.tk 4 20095 rfl rfl rfl (Val.addL (b := [1]) rfl rfl (by simp; omega)) ?_ (hro := ro_s)
            refine TA.tk 7 20223 rfl rfl rfl (Val.addL rfl rfl (by first | omega | (simp <;> omega))) ?_ (hro := ro_s)
            refine TA.two 8 12 (by kernel_rfl) ?_ ?_
            · skip
              refine TO.dz 20479 (some 15) rfl rfl rfl rfl (Does.callF go112 rfl (refSip_fn k (lab ++ [1] ++ put8 n) _ (by simp; omega))) ?_
              rintro _ _ ⟨rfl, rfl⟩
              refine ⟨ro_s, ?_⟩
              refine TA.two 12 15 (by kernel_rfl) ?_ ?_
              · skip
                refine TO.dz 24575 (some 19) rfl rfl rfl rfl (Val.does (Val.b2s (l := [2]) rfl us37 ui5 un9 rfl (.some (Rd.get (i := 0) rfl rfl)))) ?_
                rintro _ _ ⟨rfl, rfl⟩
                refine ⟨ro_s, ?_⟩
                refine TA.tk 13 32767 rfl rfl rfl (Val.addL (b := [2]) rfl rfl (by simp; omega)) ?_ (hro := ro_s)
                refine TA.one 15 (by kernel_rfl) ?_
                refine TO.dz 65535 (some 22) rfl rfl rfl rfl (Does.callF go111 rfl (refPut_fn _ _)) ?_
                rintro _ _ ⟨rfl, rfl⟩
                refine ⟨ro_s, ?_⟩
                refine TA.tk 16 131071 rfl rfl rfl (Val.addL rfl rfl (by first | omega | (simp <;> omega))) ?_ (hro := ro_s)
                refine TA.one 17 (by kernel_rfl) ?_
                refine TO.dz 262143 (some 24) rfl rfl rfl rfl (Does.callF go112 rfl (refSip_fn k (lab ++ [2] ++ put8 n) _ (by simp; omega))) ?_
                rintro _ _ ⟨rfl, rfl⟩
                refine ⟨ro_s, ?_⟩
                refine TA.tk 18 524287 rfl rfl rfl (Val.buildA ar69 sz24 ze69 rfl rfl) ?_ (hro := ro_s)
                refine TA.one 19 (by kernel_rfl) ?_
                refine TO.dz 1048575 none rfl rfl rfl rfl (Does.store (i := 2) rfl rfl rfl sz69 rfl rfl (by first | exact Nat.le_of_ble_eq_true rfl | decide | omega) rfl rfl) ?_
                rintro _ _ ⟨rfl, rfl⟩
                refine ⟨ro_s, ?_⟩
                refine TA.done (by kernel_rfl) ?_
                refine AtX.join () ?_ (Sub.cons rfl (Sub.nil _)) ro_s
                trivial
              · skip
                refine TO.dz 53247 (some 22) rfl rfl rfl rfl (Does.callF go111 rfl (refPut_fn _ _)) ?_
                rintro _ _ ⟨rfl, rfl⟩
                refine ⟨ro_s, ?_⟩
                refine TA.one 12 (by kernel_rfl) ?_
                refine TO.dz 57343 (some 19) rfl rfl rfl rfl (Val.does (Val.b2s (l := [2]) rfl us37 ui5 un9 rfl (.some (Rd.get (i := 0) rfl rfl)))) ?_
                rintro _ _ ⟨rfl, rfl⟩
                refine ⟨ro_s, ?_⟩
                refine TA.tk 13 65535 rfl rfl rfl (Val.addL (b := [2]) rfl rfl (by simp; omega)) ?_ (hro := ro_s)
                refine TA.tk 16 131071 rfl rfl rfl (Val.addL rfl rfl (by first | omega | (simp <;> omega))) ?_ (hro := ro_s)
                refine TA.one 17 (by kernel_rfl) ?_
                refine TO.dz 262143 (some 24) rfl rfl rfl rfl (Does.callF go112 rfl (refSip_fn k (lab ++ [2] ++ put8 n) _ (by simp; omega))) ?_
                rintro _ _ ⟨rfl, rfl⟩
                refine ⟨ro_s, ?_⟩
                refine TA.tk 18 524287 rfl rfl rfl (Val.buildA ar69 sz24 ze69 rfl rfl) ?_ (hro := ro_s)
                refine TA.one 19 (by kernel_rfl) ?_
                refine TO.dz 1048575 none rfl rfl rfl rfl (Does.store (i := 2) rfl rfl rfl sz69 rfl rfl (by first | exact Nat.le_of_ble_eq_true rfl | decide | omega) rfl rfl) ?_
                rintro _ _ ⟨rfl, rfl⟩
                refine ⟨ro_s, ?_⟩
                refine TA.done (by kernel_rfl) ?_
                refine AtX.join () ?_ (Sub.cons rfl (Sub.nil _)) ro_s
                trivial
            · skip
              refine TO.dz 24319 (some 19) rfl rfl rfl rfl (Val.does (Val.b2s (l := [2]) rfl us37 ui5 un9 rfl (.some (Rd.get (i := 0) rfl rfl)))) ?_
              rintro _ _ ⟨rfl, rfl⟩
              refine ⟨ro_s, ?_⟩
              refine TA.tk 13 32511 rfl rfl rfl (Val.addL (b := [2]) rfl rfl (by simp; omega)) ?_ (hro := ro_s)
              refine TA.one 8 (by kernel_rfl) ?_
              refine TO.dz 32767 (some 15) rfl rfl rfl rfl (Does.callF go112 rfl (refSip_fn k (lab ++ [1] ++ put8 n) _ (by simp; omega))) ?_
              rintro _ _ ⟨rfl, rfl⟩
              refine ⟨ro_s, ?_⟩
              refine TA.one 15 (by kernel_rfl) ?_
              refine TO.dz 65535 (some 22) rfl rfl rfl rfl (Does.callF go111 rfl (refPut_fn _ _)) ?_
              rintro _ _ ⟨rfl, rfl⟩
              refine ⟨ro_s, ?_⟩
              refine TA.tk 16 131071 rfl rfl rfl (Val.addL rfl rfl (by first | omega | (simp <;> omega))) ?_ (hro := ro_s)
              refine TA.one 17 (by kernel_rfl) ?_
              refine TO.dz 262143 (some 24) rfl rfl rfl rfl (Does.callF go112 rfl (refSip_fn k (lab ++ [2] ++ put8 n) _ (by simp; omega))) ?_
              rintro _ _ ⟨rfl, rfl⟩
              refine ⟨ro_s, ?_⟩
              refine TA.tk 18 524287 rfl rfl rfl (Val.buildA ar69 sz24 ze69 rfl rfl) ?_ (hro := ro_s)
              refine TA.one 19 (by kernel_rfl) ?_
              refine TO.dz 1048575 none rfl rfl rfl rfl (Does.store (i := 2) rfl rfl rfl sz69 rfl rfl (by first | exact Nat.le_of_ble_eq_true rfl | decide | omega) rfl rfl) ?_
              rintro _ _ ⟨rfl, rfl⟩
              refine ⟨ro_s, ?_⟩
              refine TA.done (by kernel_rfl) ?_
              refine AtX.join () ?_ (Sub.cons rfl (Sub.nil _)) ro_s
              trivial
          · skip
            refine TO.dz 24167 (some 19) rfl rfl rfl rfl (Val.does (Val.b2s (l := [2]) rfl us37 ui5 un9 rfl (.some (Rd.get (i := 0) rfl rfl)))) ?_
            rintro _ _ ⟨rfl, rfl⟩
            refine ⟨ro_s, ?_⟩
            refine TA.tk 13 32359 rfl rfl rfl (Val.addL (b := [2]) rfl rfl (by simp; omega)) ?_ (hro := ro_s)
            refine TA.one 3 (by kernel_rfl) ?_
            refine TO.dz 32367 (some 10) rfl rfl rfl rfl (Val.does (Val.b2s (l := [1]) rfl us37 ui5 un9 rfl (.some (Rd.get (i := 1) rfl rfl)))) ?_
            rintro _ _ ⟨rfl, rfl⟩
            refine ⟨ro_s, ?_⟩
            refine TA.tk 4 32383 rfl rfl rfl (Val.addL (b := [1]) rfl rfl (by simp; omega)) ?_ (hro := ro_s)
            refine TA.tk 7 32511 rfl rfl rfl (Val.addL rfl rfl (by first | omega | (simp <;> omega))) ?_ (hro := ro_s)
            refine TA.one 8 (by kernel_rfl) ?_
            refine TO.dz 32767 (some 15) rfl rfl rfl rfl (Does.callF go112 rfl (refSip_fn k (lab ++ [1] ++ put8 n) _ (by simp; omega))) ?_
            rintro _ _ ⟨rfl, rfl⟩
            refine ⟨ro_s, ?_⟩
            refine TA.one 15 (by kernel_rfl) ?_
            refine TO.dz 65535 (some 22) rfl rfl rfl rfl (Does.callF go111 rfl (refPut_fn _ _)) ?_
            rintro _ _ ⟨rfl, rfl⟩
            refine ⟨ro_s, ?_⟩
            refine TA.tk 16 131071 rfl rfl rfl (Val.addL rfl rfl (by first | omega | (simp <;> omega))) ?_ (hro := ro_s)
            refine TA.one 17 (by kernel_rfl) ?_
            refine TO.dz 262143 (some 24) rfl rfl rfl rfl (Does.callF go112 rfl (refSip_fn k (lab ++ [2] ++ put8 n) _ (by simp; omega))) ?_
            rintro _ _ ⟨rfl, rfl⟩
            refine ⟨ro_s, ?_⟩
            refine TA.tk 18 524287 rfl rfl rfl (Val.buildA ar69 sz24 ze69 rfl rfl) ?_ (hro := ro_s)
            refine TA.one 19 (by kernel_rfl) ?_
            refine TO.dz 1048575 none rfl rfl rfl rfl (Does.store (i := 2) rfl rfl rfl sz69 rfl rfl (by first | exact Nat.le_of_ble_eq_true rfl | decide | omega) rfl rfl) ?_
            rintro _ _ ⟨rfl, rfl⟩
            refine ⟨ro_s, ?_⟩
            refine TA.done (by kernel_rfl) ?_
            refine AtX.join () ?_ (Sub.cons rfl (Sub.nil _)) ro_s
            trivial
      · skip
        refine TO.dz 20067 (some 18) rfl rfl rfl rfl (Does.buildSlice sl37 sz5 ze5 (by decide) (by decide) rfl rfl rfl) ?_
        rintro _ _ ⟨b67, rfl, rfl⟩
        refine ⟨ro_s, ?_⟩
        refine TA.two 2 12 (by kernel_rfl) ?_ ?_
        · skip
          refine TO.dz 20071 (some 9) rfl rfl rfl rfl (Does.buildSlice sl37 sz5 ze5 (by decide) (by decide) rfl rfl rfl) ?_
          rintro _ _ ⟨b68, rfl, rfl⟩
          refine ⟨ro_s, ?_⟩
          refine TA.two 3 12 (by kernel_rfl) ?_ ?_
          · skip
            refine TO.dz 20079 (some 10) rfl rfl rfl rfl (Val.does (Val.b2s (l := [1]) rfl us37 ui5 un9 rfl (.some (Rd.get (i := 0) rfl rfl)))) ?_
            rintro _ _ ⟨rfl, rfl⟩
            refine ⟨ro_s, ?_⟩
            refine TA.tk 4 20095 rfl rfl rfl (Val.addL (b := [1]) rfl rfl (by simp; omega)) ?_ (hro := ro_s)
            refine TA.tk 7 20223 rfl rfl rfl (Val.addL rfl rfl (by first | omega | (simp <;> omega))) ?_ (hro := ro_s)
            refine TA.two 8 12 (by kernel_rfl) ?_ ?_
            · skip
              refine TO.dz 20479 (some 15) rfl rfl rfl rfl (Does.callF go112 rfl (refSip_fn k (lab ++ [1] ++ put8 n) _ (by simp; omega))) ?_
              rintro _ _ ⟨rfl, rfl⟩
              refine ⟨ro_s, ?_⟩
              refine TA.two 12 15 (by kernel_rfl) ?_ ?_
              · skip
                refine TO.dz 24575 (some 19) rfl rfl rfl rfl (Val.does (Val.b2s (l := [2]) rfl us37 ui5 un9 rfl (.some (Rd.get (i := 1) rfl rfl)))) ?_
                rintro _ _ ⟨rfl, rfl⟩
                refine ⟨ro_s, ?_⟩
                refine TA.tk 13 32767 rfl rfl rfl (Val.addL (b := [2]) rfl rfl (by simp; omega)) ?_ (hro := ro_s)
                refine TA.one 15 (by kernel_rfl) ?_
                refine TO.dz 65535 (some 22) rfl rfl rfl rfl (Does.callF go111 rfl (refPut_fn _ _)) ?_
                rintro _ _ ⟨rfl, rfl⟩
                refine ⟨ro_s, ?_⟩
                refine TA.tk 16 131071 rfl rfl rfl (Val.addL rfl rfl (by first | omega | (simp <;> omega))) ?_ (hro := ro_s)
                refine TA.one 17 (by kernel_rfl) ?_
                refine TO.dz 262143 (some 24) rfl rfl rfl rfl (Does.callF go112 rfl (refSip_fn k (lab ++ [2] ++ put8 n) _ (by simp; omega))) ?_
                rintro _ _ ⟨rfl, rfl⟩
                refine ⟨ro_s, ?_⟩
                refine TA.tk 18 524287 rfl rfl rfl (Val.buildA ar69 sz24 ze69 rfl rfl) ?_ (hro := ro_s)
                refine TA.one 19 (by kernel_rfl) ?_
                refine TO.dz 1048575 none rfl rfl rfl rfl (Does.store (i := 2) rfl rfl rfl sz69 rfl rfl (by first | exact Nat.le_of_ble_eq_true rfl | decide | omega) rfl rfl) ?_
                rintro _ _ ⟨rfl, rfl⟩
                refine ⟨ro_s, ?_⟩
                refine TA.done (by kernel_rfl) ?_
                refine AtX.join () ?_ (Sub.cons rfl (Sub.nil _)) ro_s
                trivial
              · skip
                refine TO.dz 53247 (some 22) rfl rfl rfl rfl (Does.callF go111 rfl (refPut_fn _ _)) ?_
                rintro _ _ ⟨rfl, rfl⟩
                refine ⟨ro_s, ?_⟩
                refine TA.one 12 (by kernel_rfl) ?_
                refine TO.dz 57343 (some 19) rfl rfl rfl rfl (Val.does (Val.b2s (l := [2]) rfl us37 ui5 un9 rfl (.some (Rd.get (i := 1) rfl rfl)))) ?_
                rintro _ _ ⟨rfl, rfl⟩
                refine ⟨ro_s, ?_⟩
                refine TA.tk 13 65535 rfl rfl rfl (Val.addL (b := [2]) rfl rfl (by simp; omega)) ?_ (hro := ro_s)
                refine TA.tk 16 131071 rfl rfl rfl (Val.addL rfl rfl (by first | omega | (simp <;> omega))) ?_ (hro := ro_s)
                refine TA.one 17 (by kernel_rfl) ?_
                refine TO.dz 262143 (some 24) rfl rfl rfl rfl (Does.callF go112 rfl (refSip_fn k (lab ++ [2] ++ put8 n) _ (by simp; omega))) ?_
                rintro _ _ ⟨rfl, rfl⟩
                refine ⟨ro_s, ?_⟩
                refine TA.tk 18 524287 rfl rfl rfl (Val.buildA ar69 sz24 ze69 rfl rfl) ?_ (hro := ro_s)
                refine TA.one 19 (by kernel_rfl) ?_
                refine TO.dz 1048575 none rfl rfl rfl rfl (Does.store (i := 2) rfl rfl rfl sz69 rfl rfl (by first | exact Nat.le_of_ble_eq_true rfl | decide | omega) rfl rfl) ?_
                rintro _ _ ⟨rfl, rfl⟩
                refine ⟨ro_s, ?_⟩
                refine TA.done (by kernel_rfl) ?_
                refine AtX.join () ?_ (Sub.cons rfl (Sub.nil _)) ro_s
                trivial
            · skip
              refine TO.dz 24319 (some 19) rfl rfl rfl rfl (Val.does (Val.b2s (l := [2]) rfl us37 ui5 un9 rfl (.some (Rd.get (i := 1) rfl rfl)))) ?_
              rintro _ _ ⟨rfl, rfl⟩
              refine ⟨ro_s, ?_⟩
              refine TA.tk 13 32511 rfl rfl rfl (Val.addL (b := [2]) rfl rfl (by simp; omega)) ?_ (hro := ro_s)
              refine TA.one 8 (by kernel_rfl) ?_
              refine TO.dz 32767 (some 15) rfl rfl rfl rfl (Does.callF go112 rfl (refSip_fn k (lab ++ [1] ++ put8 n) _ (by simp; omega))) ?_
              rintro _ _ ⟨rfl, rfl⟩
              refine ⟨ro_s, ?_⟩
              refine TA.one 15 (by kernel_rfl) ?_
              refine TO.dz 65535 (some 22) rfl rfl rfl rfl (Does.callF go111 rfl (refPut_fn _ _)) ?_
              rintro _ _ ⟨rfl, rfl⟩
              refine ⟨ro_s, ?_⟩
              refine TA.tk 16 131071 rfl rfl rfl (Val.addL rfl rfl (by first | omega | (simp <;> omega))) ?_ (hro := ro_s)
              refine TA.one 17 (by kernel_rfl) ?_
              refine TO.dz 262143 (some 24) rfl rfl rfl rfl (Does.callF go112 rfl (refSip_fn k (lab ++ [2] ++ put8 n) _ (by simp; omega))) ?_
              rintro _ _ ⟨rfl, rfl⟩
              refine ⟨ro_s, ?_⟩
              refine TA.tk 18 524287 rfl rfl rfl (Val.buildA ar69 sz24 ze69 rfl rfl) ?_ (hro := ro_s)
              refine TA.one 19 (by kernel_rfl) ?_
              refine TO.dz 1048575 none rfl rfl rfl rfl (Does.store (i := 2) rfl rfl rfl sz69 rfl rfl (by first | exact Nat.le_of_ble_eq_true rfl | decide | omega) rfl rfl) ?_
              rintro _ _ ⟨rfl, rfl⟩
              refine ⟨ro_s, ?_⟩
              refine TA.done (by kernel_rfl) ?_
              refine AtX.join () ?_ (Sub.cons rfl (Sub.nil _)) ro_s
              trivial
          · skip
            refine TO.dz 24167 (some 19) rfl rfl rfl rfl (Val.does (Val.b2s (l := [2]) rfl us37 ui5 un9 rfl (.some (Rd.get (i := 1) rfl rfl)))) ?_
            rintro _ _ ⟨rfl, rfl⟩
            refine ⟨ro_s, ?_⟩
            refine TA.tk 13 32359 rfl rfl rfl (Val.addL (b := [2]) rfl rfl (by simp; omega)) ?_ (hro := ro_s)
            refine TA.one 3 (by kernel_rfl) ?_
            refine TO.dz 32367 (some 10) rfl rfl rfl rfl (Val.does (Val.b2s (l := [1]) rfl us37 ui5 un9 rfl (.some (Rd.get (i := 0) rfl rfl)))) ?_
            rintro _ _ ⟨rfl, rfl⟩
            refine ⟨ro_s, ?_⟩
            refine TA.tk 4 32383 rfl rfl rfl (Val.addL (b := [1]) rfl rfl (by simp; omega)) ?_ (hro := ro_s)
            refine TA.tk 7 32511 rfl rfl rfl (Val.addL rfl rfl (by first | omega | (simp <;> omega))) ?_ (hro := ro_s)
            refine TA.one 8 (by kernel_rfl) ?_
            refine TO.dz 32767 (some 15) rfl rfl rfl rfl (Does.callF go112 rfl (refSip_fn k (lab ++ [1] ++ put8 n) _ (by simp; omega))) ?_
            rintro _ _ ⟨rfl, rfl⟩
            refine ⟨ro_s, ?_⟩
            refine TA.one 15 (by kernel_rfl) ?_
            refine TO.dz 65535 (some 22) rfl rfl rfl rfl (Does.callF go111 rfl (refPut_fn _ _)) ?_
            rintro _ _ ⟨rfl, rfl⟩
            refine ⟨ro_s, ?_⟩
            refine TA.tk 16 131071 rfl rfl rfl (Val.addL rfl rfl (by first | omega | (simp <;> omega))) ?_ (hro := ro_s)
            refine TA.one 17 (by kernel_rfl) ?_
            refine TO.dz 262143 (some 24) rfl rfl rfl rfl (Does.callF go112 rfl (refSip_fn k (lab ++ [2] ++ put8 n) _ (by simp; omega))) ?_
            rintro _ _ ⟨rfl, rfl⟩
            refine ⟨ro_s, ?_⟩
            refine TA.tk 18 524287 rfl rfl rfl (Val.buildA ar69 sz24 ze69 rfl rfl) ?_ (hro := ro_s)
            refine TA.one 19 (by kernel_rfl) ?_
            refine TO.dz 1048575 none rfl rfl rfl rfl (Does.store (i := 2) rfl rfl rfl sz69 rfl rfl (by first | exact Nat.le_of_ble_eq_true rfl | decide | omega) rfl rfl) ?_
            rintro _ _ ⟨rfl, rfl⟩
            refine ⟨ro_s, ?_⟩
            refine TA.done (by kernel_rfl) ?_
            refine AtX.join () ?_ (Sub.cons rfl (Sub.nil _)) ro_s
            trivial
        · skip
          refine TO.dz 24163 (some 19) rfl rfl rfl rfl (Val.does (Val.b2s (l := [2]) rfl us37 ui5 un9 rfl (.some (Rd.get (i := 0) rfl rfl)))) ?_
          rintro _ _ ⟨rfl, rfl⟩
          refine ⟨ro_s, ?_⟩
          refine TA.tk 13 32355 rfl rfl rfl (Val.addL (b := [2]) rfl rfl (by simp; omega)) ?_ (hro := ro_s)
          refine TA.one 2 (by kernel_rfl) ?_
          refine TO.dz 32359 (some 9) rfl rfl rfl rfl (Does.buildSlice sl37 sz5 ze5 (by decide) (by decide) rfl rfl rfl) ?_
          rintro _ _ ⟨b73, rfl, rfl⟩
          refine ⟨ro_s, ?_⟩
          refine TA.one 3 (by kernel_rfl) ?_
          refine TO.dz 32367 (some 10) rfl rfl rfl rfl (Val.does (Val.b2s (l := [1]) rfl us37 ui5 un9 rfl (.some (Rd.get (i := 0) rfl rfl)))) ?_
          rintro _ _ ⟨rfl, rfl⟩
          refine ⟨ro_s, ?_⟩
          refine TA.tk 4 32383 rfl rfl rfl (Val.addL (b := [1]) rfl rfl (by simp; omega)) ?_ (hro := ro_s)
          refine TA.tk 7 32511 rfl rfl rfl (Val.addL rfl rfl (by first | omega | (simp <;> omega))) ?_ (hro := ro_s)
          refine TA.one 8 (by kernel_rfl) ?_
          refine TO.dz 32767 (some 15) rfl rfl rfl rfl (Does.callF go112 rfl (refSip_fn k (lab ++ [1] ++ put8 n) _ (by simp; omega))) ?_
          rintro _ _ ⟨rfl, rfl⟩
          refine ⟨ro_s, ?_⟩
          refine TA.one 15 (by kernel_rfl) ?_
          refine TO.dz 65535 (some 22) rfl rfl rfl rfl (Does.callF go111 rfl (refPut_fn _ _)) ?_
          rintro _ _ ⟨rfl, rfl⟩
          refine ⟨ro_s, ?_⟩
          refine TA.tk 16 131071 rfl rfl rfl (Val.addL rfl rfl (by first | omega | (simp <;> omega))) ?_ (hro := ro_s)
          refine TA.one 17 (by kernel_rfl) ?_
          refine TO.dz 262143 (some 24) rfl rfl rfl rfl (Does.callF go112 rfl (refSip_fn k (lab ++ [2] ++ put8 n) _ (by simp; omega))) ?_
          rintro _ _ ⟨rfl, rfl⟩
          refine ⟨ro_s, ?_⟩
          refine TA.tk 18 524287 rfl rfl rfl (Val.buildA ar69 sz24 ze69 rfl rfl) ?_ (hro := ro_s)
          refine TA.one 19 (by kernel_rfl) ?_
          refine TO.dz 1048575 none rfl rfl rfl rfl (Does.store (i := 2) rfl rfl rfl sz69 rfl rfl (by first | exact Nat.le_of_ble_eq_true rfl | decide | omega) rfl rfl) ?_
          rintro _ _ ⟨rfl, rfl⟩
          refine ⟨ro_s, ?_⟩
          refine TA.done (by kernel_rfl) ?_
          refine AtX.join () ?_ (Sub.cons rfl (Sub.nil _)) ro_s
          trivial
    · skip
      refine TO.dz 20003 (some 18) rfl rfl rfl rfl (Does.buildSlice sl37 sz5 ze5 (by decide) (by decide) rfl rfl rfl) ?_
      rintro _ _ ⟨b75, rfl, rfl⟩
      refine ⟨ro_s, ?_⟩
      refine TA.three 2 6 12 (by kernel_rfl) ?_ ?_ ?_
      · skip
        refine TO.dz 20007 (some 9) rfl rfl rfl rfl (Does.buildSlice sl37 sz5 ze5 (by decide) (by decide) rfl rfl rfl) ?_
        rintro _ _ ⟨b76, rfl, rfl⟩
        refine ⟨ro_s, ?_⟩
        refine TA.three 3 6 12 (by kernel_rfl) ?_ ?_ ?_
        · skip
          refine TO.dz 20015 (some 10) rfl rfl rfl rfl (Val.does (Val.b2s (l := [1]) rfl us37 ui5 un9 rfl (.some (Rd.get (i := 0) rfl rfl)))) ?_
          rintro _ _ ⟨rfl, rfl⟩
          refine ⟨ro_s, ?_⟩
          refine TA.tk 4 20031 rfl rfl rfl (Val.addL (b := [1]) rfl rfl (by simp; omega)) ?_ (hro := ro_s)
          refine TA.two 6 12 (by kernel_rfl) ?_ ?_
          · skip
            refine TO.dz 20095 (some 13) rfl rfl rfl rfl (Does.callF go111 rfl (refPut_fn _ _)) ?_
            rintro _ _ ⟨rfl, rfl⟩
            refine ⟨ro_s, ?_⟩
            refine TA.tk 7 20223 rfl rfl rfl (Val.addL rfl rfl (by first | omega | (simp <;> omega))) ?_ (hro := ro_s)
            refine TA.two 8 12 (by kernel_rfl) ?_ ?_
            · skip
              refine TO.dz 20479 (some 15) rfl rfl rfl rfl (Does.callF go112 rfl (refSip_fn k (lab ++ [1] ++ put8 n) _ (by simp; omega))) ?_
              rintro _ _ ⟨rfl, rfl⟩
              refine ⟨ro_s, ?_⟩
              refine TA.two 12 15 (by kernel_rfl) ?_ ?_
              · skip
                refine TO.dz 24575 (some 19) rfl rfl rfl rfl (Val.does (Val.b2s (l := [2]) rfl us37 ui5 un9 rfl (.some (Rd.get (i := 1) rfl rfl)))) ?_
                rintro _ _ ⟨rfl, rfl⟩
                refine ⟨ro_s, ?_⟩
                refine TA.tk 13 32767 rfl rfl rfl (Val.addL (b := [2]) rfl rfl (by simp; omega)) ?_ (hro := ro_s)
                refine TA.one 15 (by kernel_rfl) ?_
                refine TO.dz 65535 (some 22) rfl rfl rfl rfl (Does.callF go111 rfl (refPut_fn _ _)) ?_
                rintro _ _ ⟨rfl, rfl⟩
                refine ⟨ro_s, ?_⟩
                refine TA.tk 16 131071 rfl rfl rfl (Val.addL rfl rfl (by first | omega | (simp <;> omega))) ?_ (hro := ro_s)
                refine TA.one 17 (by kernel_rfl) ?_
                refine TO.dz 262143 (some 24) rfl rfl rfl rfl (Does.callF go112 rfl (refSip_fn k (lab ++ [2] ++ put8 n) _ (by simp; omega))) ?_
                rintro _ _ ⟨rfl, rfl⟩
                refine ⟨ro_s, ?_⟩
                refine TA.tk 18 524287 rfl rfl rfl (Val.buildA ar69 sz24 ze69 rfl rfl) ?_ (hro := ro_s)
                refine TA.one 19 (by kernel_rfl) ?_
                refine TO.dz 1048575 none rfl rfl rfl rfl (Does.store (i := 2) rfl rfl rfl sz69 rfl rfl (by first | exact Nat.le_of_ble_eq_true rfl | decide | omega) rfl rfl) ?_
                rintro _ _ ⟨rfl, rfl⟩
                refine ⟨ro_s, ?_⟩
                refine TA.done (by kernel_rfl) ?_
                refine AtX.join () ?_ (Sub.cons rfl (Sub.nil _)) ro_s
                trivial
              · skip
                refine TO.dz 53247 (some 22) rfl rfl rfl rfl (Does.callF go111 rfl (refPut_fn _ _)) ?_
                rintro _ _ ⟨rfl, rfl⟩
                refine ⟨ro_s, ?_⟩
                refine TA.one 12 (by kernel_rfl) ?_
                refine TO.dz 57343 (some 19) rfl rfl rfl rfl (Val.does (Val.b2s (l := [2]) rfl us37 ui5 un9 rfl (.some (Rd.get (i := 1) rfl rfl)))) ?_
                rintro _ _ ⟨rfl, rfl⟩
                refine ⟨ro_s, ?_⟩
                refine TA.tk 13 65535 rfl rfl rfl (Val.addL (b := [2]) rfl rfl (by simp; omega)) ?_ (hro := ro_s)
                refine TA.tk 16 131071 rfl rfl rfl (Val.addL rfl rfl (by first | omega | (simp <;> omega))) ?_ (hro := ro_s)
                refine TA.one 17 (by kernel_rfl) ?_
                refine TO.dz 262143 (some 24) rfl rfl rfl rfl (Does.callF go112 rfl (refSip_fn k (lab ++ [2] ++ put8 n) _ (by simp; omega))) ?_
                rintro _ _ ⟨rfl, rfl⟩
                refine ⟨ro_s, ?_⟩
                refine TA.tk 18 524287 rfl rfl rfl (Val.buildA ar69 sz24 ze69 rfl rfl) ?_ (hro := ro_s)
                refine TA.one 19 (by kernel_rfl) ?_
                refine TO.dz 1048575 none rfl rfl rfl rfl (Does.store (i := 2) rfl rfl rfl sz69 rfl rfl (by first | exact Nat.le_of_ble_eq_true rfl | decide | omega) rfl rfl) ?_
                rintro _ _ ⟨rfl, rfl⟩
                refine ⟨ro_s, ?_⟩
                refine TA.done (by kernel_rfl) ?_
                refine AtX.join () ?_ (Sub.cons rfl (Sub.nil _)) ro_s
                trivial
            · skip
              refine TO.dz 24319 (some 19) rfl rfl rfl rfl (Val.does (Val.b2s (l := [2]) rfl us37 ui5 un9 rfl (.some (Rd.get (i := 1) rfl rfl)))) ?_
              rintro _ _ ⟨rfl, rfl⟩
              refine ⟨ro_s, ?_⟩
              refine TA.tk 13 32511 rfl rfl rfl (Val.addL (b := [2]) rfl rfl (by simp; omega)) ?_ (hro := ro_s)
              refine TA.one 8 (by kernel_rfl) ?_
              refine TO.dz 32767 (some 15) rfl rfl rfl rfl (Does.callF go112 rfl (refSip_fn k (lab ++ [1] ++ put8 n) _ (by simp; omega))) ?_
              rintro _ _ ⟨rfl, rfl⟩
              refine ⟨ro_s, ?_⟩
              refine TA.one 15 (by kernel_rfl) ?_
              refine TO.dz 65535 (some 22) rfl rfl rfl rfl (Does.callF go111 rfl (refPut_fn _ _)) ?_
              rintro _ _ ⟨rfl, rfl⟩
              refine ⟨ro_s, ?_⟩
              refine TA.tk 16 131071 rfl rfl rfl (Val.addL rfl rfl (by first | omega | (simp <;> omega))) ?_ (hro := ro_s)
              refine TA.one 17 (by kernel_rfl) ?_
              refine TO.dz 262143 (some 24) rfl rfl rfl rfl (Does.callF go112 rfl (refSip_fn k (lab ++ [2] ++ put8 n) _ (by simp; omega))) ?_
              rintro _ _ ⟨rfl, rfl⟩
              refine ⟨ro_s, ?_⟩
              refine TA.tk 18 524287 rfl rfl rfl (Val.buildA ar69 sz24 ze69 rfl rfl) ?_ (hro := ro_s)
              refine TA.one 19 (by kernel_rfl) ?_
              refine TO.dz 1048575 none rfl rfl rfl rfl (Does.store (i := 2) rfl rfl rfl sz69 rfl rfl (by first | exact Nat.le_of_ble_eq_true rfl | decide | omega) rfl rfl) ?_
              rintro _ _ ⟨rfl, rfl⟩
              refine ⟨ro_s, ?_⟩
              refine TA.done (by kernel_rfl) ?_
              refine AtX.join () ?_ (Sub.cons rfl (Sub.nil _)) ro_s
              trivial
          · skip
            refine TO.dz 24127 (some 19) rfl rfl rfl rfl (Val.does (Val.b2s (l := [2]) rfl us37 ui5 un9 rfl (.some (Rd.get (i := 1) rfl rfl)))) ?_
            rintro _ _ ⟨rfl, rfl⟩
            refine ⟨ro_s, ?_⟩
            refine TA.tk 13 32319 rfl rfl rfl (Val.addL (b := [2]) rfl rfl (by simp; omega)) ?_ (hro := ro_s)
            refine TA.one 6 (by kernel_rfl) ?_
            refine TO.dz 32383 (some 13) rfl rfl rfl rfl (Does.callF go111 rfl (refPut_fn _ _)) ?_
            rintro _ _ ⟨rfl, rfl⟩
            refine ⟨ro_s, ?_⟩
            refine TA.tk 7 32511 rfl rfl rfl (Val.addL rfl rfl (by first | omega | (simp <;> omega))) ?_ (hro := ro_s)
            refine TA.one 8 (by kernel_rfl) ?_
            refine TO.dz 32767 (some 15) rfl rfl rfl rfl (Does.callF go112 rfl (refSip_fn k (lab ++ [1] ++ put8 n) _ (by simp; omega))) ?_
            rintro _ _ ⟨rfl, rfl⟩
            refine ⟨ro_s, ?_⟩
            refine TA.one 15 (by kernel_rfl) ?_
            refine TO.dz 65535 (some 22) rfl rfl rfl rfl (Does.callF go111 rfl (refPut_fn _ _)) ?_
            rintro _ _ ⟨rfl, rfl⟩
            refine ⟨ro_s, ?_⟩
            refine TA.tk 16 131071 rfl rfl rfl (Val.addL rfl rfl (by first | omega | (simp <;> omega))) ?_ (hro := ro_s)
            refine TA.one 17 (by kernel_rfl) ?_
            refine TO.dz 262143 (some 24) rfl rfl rfl rfl (Does.callF go112 rfl (refSip_fn k (lab ++ [2] ++ put8 n) _ (by simp; omega))) ?_
            rintro _ _ ⟨rfl, rfl⟩
            refine ⟨ro_s, ?_⟩
            refine TA.tk 18 524287 rfl rfl rfl (Val.buildA ar69 sz24 ze69 rfl rfl) ?_ (hro := ro_s)
            refine TA.one 19 (by kernel_rfl) ?_
            refine TO.dz 1048575 none rfl rfl rfl rfl (Does.store (i := 2) rfl rfl rfl sz69 rfl rfl (by first | exact Nat.le_of_ble_eq_true rfl | decide | omega) rfl rfl) ?_
            rintro _ _ ⟨rfl, rfl⟩
            refine ⟨ro_s, ?_⟩
            refine TA.done (by kernel_rfl) ?_
            refine AtX.join () ?_ (Sub.cons rfl (Sub.nil _)) ro_s
            trivial
        · skip
          refine TO.dz 20071 (some 13) rfl rfl rfl rfl (Does.callF go111 rfl (refPut_fn _ _)) ?_
          rintro _ _ ⟨rfl, rfl⟩
          refine ⟨ro_s, ?_⟩
          refine TA.two 3 12 (by kernel_rfl) ?_ ?_
          · skip
            refine TO.dz 20079 (some 10) rfl rfl rfl rfl (Val.does (Val.b2s (l := [1]) rfl us37 ui5 un9 rfl (.some (Rd.get (i := 0) rfl rfl)))) ?_
            rintro _ _ ⟨rfl, rfl⟩
            refine ⟨ro_s, ?_⟩
            refine TA.tk 4 20095 rfl rfl rfl (Val.addL (b := [1]) rfl rfl (by simp; omega)) ?_ (hro := ro_s)
            refine TA.tk 7 20223 rfl rfl rfl (Val.addL rfl rfl (by first | omega | (simp <;> omega))) ?_ (hro := ro_s)
            refine TA.two 8 12 (by kernel_rfl) ?_ ?_
            · skip
              refine TO.dz 20479 (some 15) rfl rfl rfl rfl (Does.callF go112 rfl (refSip_fn k (lab ++ [1] ++ put8 n) _ (by simp; omega))) ?_
              rintro _ _ ⟨rfl, rfl⟩
              refine ⟨ro_s, ?_⟩
              refine TA.two 12 15 (by kernel_rfl) ?_ ?_
              · skip
                refine TO.dz 24575 (some 19) rfl rfl rfl rfl (Val.does (Val.b2s (l := [2]) rfl us37 ui5 un9 rfl (.some (Rd.get (i := 1) rfl rfl)))) ?_
                rintro _ _ ⟨rfl, rfl⟩
                refine ⟨ro_s, ?_⟩
                refine TA.tk 13 32767 rfl rfl rfl (Val.addL (b := [2]) rfl rfl (by simp; omega)) ?_ (hro := ro_s)
                refine TA.one 15 (by kernel_rfl) ?_
                refine TO.dz 65535 (some 22) rfl rfl rfl rfl (Does.callF go111 rfl (refPut_fn _ _)) ?_
                rintro _ _ ⟨rfl, rfl⟩
                refine ⟨ro_s, ?_⟩
                refine TA.tk 16 131071 rfl rfl rfl (Val.addL rfl rfl (by first | omega | (simp <;> omega))) ?_ (hro := ro_s)
                refine TA.one 17 (by kernel_rfl) ?_
                refine TO.dz 262143 (some 24) rfl rfl rfl rfl (Does.callF go112 rfl (refSip_fn k (lab ++ [2] ++ put8 n) _ (by simp; omega))) ?_
                rintro _ _ ⟨rfl, rfl⟩
                refine ⟨ro_s, ?_⟩
                refine TA.tk 18 524287 rfl rfl rfl (Val.buildA ar69 sz24 ze69 rfl rfl) ?_ (hro := ro_s)
                refine TA.one 19 (by kernel_rfl) ?_
                refine TO.dz 1048575 none rfl rfl rfl rfl (Does.store (i := 2) rfl rfl rfl sz69 rfl rfl (by first | exact Nat.le_of_ble_eq_true rfl | decide | omega) rfl rfl) ?_
                rintro _ _ ⟨rfl, rfl⟩
                refine ⟨ro_s, ?_⟩
                refine TA.done (by kernel_rfl) ?_
                refine AtX.join () ?_ (Sub.cons rfl (Sub.nil _)) ro_s
                trivial
              · skip
                refine TO.dz 53247 (some 22) rfl rfl rfl rfl (Does.callF go111 rfl (refPut_fn _ _)) ?_
                rintro _ _ ⟨rfl, rfl⟩
                refine ⟨ro_s, ?_⟩
                refine TA.one 12 (by kernel_rfl) ?_
                refine TO.dz 57343 (some 19) rfl rfl rfl rfl (Val.does (Val.b2s (l := [2]) rfl us37 ui5 un9 rfl (.some (Rd.get (i := 1) rfl rfl)))) ?_
                rintro _ _ ⟨rfl, rfl⟩
                refine ⟨ro_s, ?_⟩
                refine TA.tk 13 65535 rfl rfl rfl (Val.addL (b := [2]) rfl rfl (by simp; omega)) ?_ (hro := ro_s)
                refine TA.tk 16 131071 rfl rfl rfl (Val.addL rfl rfl (by first | omega | (simp <;> omega))) ?_ (hro := ro_s)
                refine TA.one 17 (by kernel_rfl) ?_
                refine TO.dz 262143 (some 24) rfl rfl rfl rfl (Does.callF go112 rfl (refSip_fn k (lab ++ [2] ++ put8 n) _ (by simp; omega))) ?_
                rintro _ _ ⟨rfl, rfl⟩
                refine ⟨ro_s, ?_⟩
                refine TA.tk 18 524287 rfl rfl rfl (Val.buildA ar69 sz24 ze69 rfl rfl) ?_ (hro := ro_s)
                refine TA.one 19 (by kernel_rfl) ?_
                refine TO.dz 1048575 none rfl rfl rfl rfl (Does.store (i := 2) rfl rfl rfl sz69 rfl rfl (by first | exact Nat.le_of_ble_eq_true rfl | decide | omega) rfl rfl) ?_
                rintro _ _ ⟨rfl, rfl⟩
                refine ⟨ro_s, ?_⟩
                refine TA.done (by kernel_rfl) ?_
                refine AtX.join () ?_ (Sub.cons rfl (Sub.nil _)) ro_s
                trivial
            · skip
              refine TO.dz 24319 (some 19) rfl rfl rfl rfl (Val.does (Val.b2s (l := [2]) rfl us37 ui5 un9 rfl (.some (Rd.get (i := 1) rfl rfl)))) ?_
              rintro _ _ ⟨rfl, rfl⟩
              refine ⟨ro_s, ?_⟩
              refine TA.tk 13 32511 rfl rfl rfl (Val.addL (b := [2]) rfl rfl (by simp; omega)) ?_ (hro := ro_s)
              refine TA.one 8 (by kernel_rfl) ?_
              refine TO.dz 32767 (some 15) rfl rfl rfl rfl (Does.callF go112 rfl (refSip_fn k (lab ++ [1] ++ put8 n) _ (by simp; omega))) ?_
              rintro _ _ ⟨rfl, rfl⟩
              refine ⟨ro_s, ?_⟩
              refine TA.one 15 (by kernel_rfl) ?_
              refine TO.dz 65535 (some 22) rfl rfl rfl rfl (Does.callF go111 rfl (refPut_fn _ _)) ?_
              rintro _ _ ⟨rfl, rfl⟩
              refine ⟨ro_s, ?_⟩
              refine TA.tk 16 131071 rfl rfl rfl (Val.addL rfl rfl (by first | omega | (simp <;> omega))) ?_ (hro := ro_s)
              refine TA.one 17 (by kernel_rfl) ?_
              refine TO.dz 262143 (some 24) rfl rfl rfl rfl (Does.callF go112 rfl (refSip_fn k (lab ++ [2] ++ put8 n) _ (by simp; omega))) ?_
              rintro _ _ ⟨rfl, rfl⟩
              refine ⟨ro_s, ?_⟩
              refine TA.tk 18 524287 rfl rfl rfl (Val.buildA ar69 sz24 ze69 rfl rfl) ?_ (hro := ro_s)
              refine TA.one 19 (by kernel_rfl) ?_
              refine TO.dz 1048575 none rfl rfl rfl rfl (Does.store (i := 2) rfl rfl rfl sz69 rfl rfl (by first | exact Nat.le_of_ble_eq_true rfl | decide | omega) rfl rfl) ?_
              rintro _ _ ⟨rfl, rfl⟩
              refine ⟨ro_s, ?_⟩
              refine TA.done (by kernel_rfl) ?_
              refine AtX.join () ?_ (Sub.cons rfl (Sub.nil _)) ro_s
              trivial
          · skip
            refine TO.dz 24167 (some 19) rfl rfl rfl rfl (Val.does (Val.b2s (l := [2]) rfl us37 ui5 un9 rfl (.some (Rd.get (i := 1) rfl rfl)))) ?_
            rintro _ _ ⟨rfl, rfl⟩
            refine ⟨ro_s, ?_⟩
            refine TA.tk 13 32359 rfl rfl rfl (Val.addL (b := [2]) rfl rfl (by simp; omega)) ?_ (hro := ro_s)
            refine TA.one 3 (by kernel_rfl) ?_
            refine TO.dz 32367 (some 10) rfl rfl rfl rfl (Val.does (Val.b2s (l := [1]) rfl us37 ui5 un9 rfl (.some (Rd.get (i := 0) rfl rfl)))) ?_
            rintro _ _ ⟨rfl, rfl⟩
            refine ⟨ro_s, ?_⟩
            refine TA.tk 4 32383 rfl rfl rfl (Val.addL (b := [1]) rfl rfl (by simp; omega)) ?_ (hro := ro_s)
            refine TA.tk 7 32511 rfl rfl rfl (Val.addL rfl rfl (by first | omega | (simp <;> omega))) ?_ (hro := ro_s)
            refine TA.one 8 (by kernel_rfl) ?_
            refine TO.dz 32767 (some 15) rfl rfl rfl rfl (Does.callF go112 rfl (refSip_fn k (lab ++ [1] ++ put8 n) _ (by simp; omega))) ?_
            rintro _ _ ⟨rfl, rfl⟩
            refine ⟨ro_s, ?_⟩
            refine TA.one 15 (by kernel_rfl) ?_
            refine TO.dz 65535 (some 22) rfl rfl rfl rfl (Does.callF go111 rfl (refPut_fn _ _)) ?_
            rintro _ _ ⟨rfl, rfl⟩
            refine ⟨ro_s, ?_⟩
            refine TA.tk 16 131071 rfl rfl rfl (Val.addL rfl rfl (by first | omega | (simp <;> omega))) ?_ (hro := ro_s)
            refine TA.one 17 (by kernel_rfl) ?_
            refine TO.dz 262143 (some 24) rfl rfl rfl rfl (Does.callF go112 rfl (refSip_fn k (lab ++ [2] ++ put8 n) _ (by simp; omega))) ?_
            rintro _ _ ⟨rfl, rfl⟩
            refine ⟨ro_s, ?_⟩
            refine TA.tk 18 524287 rfl rfl rfl (Val.buildA ar69 sz24 ze69 rfl rfl) ?_ (hro := ro_s)
            refine TA.one 19 (by kernel_rfl) ?_
            refine TO.dz 1048575 none rfl rfl rfl rfl (Does.store (i := 2) rfl rfl rfl sz69 rfl rfl (by first | exact Nat.le_of_ble_eq_true rfl | decide | omega) rfl rfl) ?_
            rintro _ _ ⟨rfl, rfl⟩
            refine ⟨ro_s, ?_⟩
            refine TA.done (by kernel_rfl) ?_
            refine AtX.join () ?_ (Sub.cons rfl (Sub.nil _)) ro_s
            trivial
        · skip
          refine TO.dz 24103 (some 19) rfl rfl rfl rfl (Val.does (Val.b2s (l := [2]) rfl us37 ui5 un9 rfl (.some (Rd.get (i := 1) rfl rfl)))) ?_
          rintro _ _ ⟨rfl, rfl⟩
          refine ⟨ro_s, ?_⟩
          refine TA.tk 13 32295 rfl rfl rfl (Val.addL (b := [2]) rfl rfl (by simp; omega)) ?_ (hro := ro_s)
          refine TA.two 3 6 (by kernel_rfl) ?_ ?_
          · skip
            refine TO.dz 32303 (some 10) rfl rfl rfl rfl (Val.does (Val.b2s (l := [1]) rfl us37 ui5 un9 rfl (.some (Rd.get (i := 0) rfl rfl)))) ?_
            rintro _ _ ⟨rfl, rfl⟩
            refine ⟨ro_s, ?_⟩
            refine TA.tk 4 32319 rfl rfl rfl (Val.addL (b := [1]) rfl rfl (by simp; omega)) ?_ (hro := ro_s)
            refine TA.one 6 (by kernel_rfl) ?_
            refine TO.dz 32383 (some 13) rfl rfl rfl rfl (Does.callF go111 rfl (refPut_fn _ _)) ?_
            rintro _ _ ⟨rfl, rfl⟩
            refine ⟨ro_s, ?_⟩
            refine TA.tk 7 32511 rfl rfl rfl (Val.addL rfl rfl (by first | omega | (simp <;> omega))) ?_ (hro := ro_s)
            refine TA.one 8 (by kernel_rfl) ?_
            refine TO.dz 32767 (some 15) rfl rfl rfl rfl (Does.callF go112 rfl (refSip_fn k (lab ++ [1] ++ put8 n) _ (by simp; omega))) ?_
            rintro _ _ ⟨rfl, rfl⟩
            refine ⟨ro_s, ?_⟩
            refine TA.one 15 (by kernel_rfl) ?_
            refine TO.dz 65535 (some 22) rfl rfl rfl rfl (Does.callF go111 rfl (refPut_fn _ _)) ?_
            rintro _ _ ⟨rfl, rfl⟩
            refine ⟨ro_s, ?_⟩
            refine TA.tk 16 131071 rfl rfl rfl (Val.addL rfl rfl (by first | omega | (simp <;> omega))) ?_ (hro := ro_s)
            refine TA.one 17 (by kernel_rfl) ?_
            refine TO.dz 262143 (some 24) rfl rfl rfl rfl (Does.callF go112 rfl (refSip_fn k (lab ++ [2] ++ put8 n) _ (by simp; omega))) ?_
            rintro _ _ ⟨rfl, rfl⟩
            refine ⟨ro_s, ?_⟩
            refine TA.tk 18 524287 rfl rfl rfl (Val.buildA ar69 sz24 ze69 rfl rfl) ?_ (hro := ro_s)
            refine TA.one 19 (by kernel_rfl) ?_
            refine TO.dz 1048575 none rfl rfl rfl rfl (Does.store (i := 2) rfl rfl rfl sz69 rfl rfl (by first | exact Nat.le_of_ble_eq_true rfl | decide | omega) rfl rfl) ?_
            rintro _ _ ⟨rfl, rfl⟩
            refine ⟨ro_s, ?_⟩
            refine TA.done (by kernel_rfl) ?_
            refine AtX.join () ?_ (Sub.cons rfl (Sub.nil _)) ro_s
            trivial
          · skip
            refine TO.dz 32359 (some 13) rfl rfl rfl rfl (Does.callF go111 rfl (refPut_fn _ _)) ?_
            rintro _ _ ⟨rfl, rfl⟩
            refine ⟨ro_s, ?_⟩
            refine TA.one 3 (by kernel_rfl) ?_
            refine TO.dz 32367 (some 10) rfl rfl rfl rfl (Val.does (Val.b2s (l := [1]) rfl us37 ui5 un9 rfl (.some (Rd.get (i := 0) rfl rfl)))) ?_
            rintro _ _ ⟨rfl, rfl⟩
            refine ⟨ro_s, ?_⟩
            refine TA.tk 4 32383 rfl rfl rfl (Val.addL (b := [1]) rfl rfl (by simp; omega)) ?_ (hro := ro_s)
            refine TA.tk 7 32511 rfl rfl rfl (Val.addL rfl rfl (by first | omega | (simp <;> omega))) ?_ (hro := ro_s)
            refine TA.one 8 (by kernel_rfl) ?_
            refine TO.dz 32767 (some 15) rfl rfl rfl rfl (Does.callF go112 rfl (refSip_fn k (lab ++ [1] ++ put8 n) _ (by simp; omega))) ?_
            rintro _ _ ⟨rfl, rfl⟩
            refine ⟨ro_s, ?_⟩
            refine TA.one 15 (by kernel_rfl) ?_
            refine TO.dz 65535 (some 22) rfl rfl rfl rfl (Does.callF go111 rfl (refPut_fn _ _)) ?_
            rintro _ _ ⟨rfl, rfl⟩
            refine ⟨ro_s, ?_⟩
            refine TA.tk 16 131071 rfl rfl rfl (Val.addL rfl rfl (by first | omega | (simp <;> omega))) ?_ (hro := ro_s)
            refine TA.one 17 (by kernel_rfl) ?_
            refine TO.dz 262143 (some 24) rfl rfl rfl rfl (Does.callF go112 rfl (refSip_fn k (lab ++ [2] ++ put8 n) _ (by simp; omega))) ?_
            rintro _ _ ⟨rfl, rfl⟩
            refine ⟨ro_s, ?_⟩
            refine TA.tk 18 524287 rfl rfl rfl (Val.buildA ar69 sz24 ze69 rfl rfl) ?_ (hro := ro_s)
            refine TA.one 19 (by kernel_rfl) ?_
            refine TO.dz 1048575 none rfl rfl rfl rfl (Does.store (i := 2) rfl rfl rfl sz69 rfl rfl (by first | exact Nat.le_of_ble_eq_true rfl | decide | omega) rfl rfl) ?_
            rintro _ _ ⟨rfl, rfl⟩
            refine ⟨ro_s, ?_⟩
            refine TA.done (by kernel_rfl) ?_
            refine AtX.join () ?_ (Sub.cons rfl (Sub.nil _)) ro_s
            trivial
      · skip
        refine TO.dz 20067 (some 13) rfl rfl rfl rfl (Does.callF go111 rfl (refPut_fn _ _)) ?_
        rintro _ _ ⟨rfl, rfl⟩
        refine ⟨ro_s, ?_⟩
        refine TA.two 2 12 (by kernel_rfl) ?_ ?_
        · skip
          refine TO.dz 20071 (some 9) rfl rfl rfl rfl (Does.buildSlice sl37 sz5 ze5 (by decide) (by decide) rfl rfl rfl) ?_
          rintro _ _ ⟨b93, rfl, rfl⟩
          refine ⟨ro_s, ?_⟩
          refine TA.two 3 12 (by kernel_rfl) ?_ ?_
          · skip
            refine TO.dz 20079 (some 10) rfl rfl rfl rfl (Val.does (Val.b2s (l := [1]) rfl us37 ui5 un9 rfl (.some (Rd.get (i := 0) rfl rfl)))) ?_
            rintro _ _ ⟨rfl, rfl⟩
            refine ⟨ro_s, ?_⟩
            refine TA.tk 4 20095 rfl rfl rfl (Val.addL (b := [1]) rfl rfl (by simp; omega)) ?_ (hro := ro_s)
            refine TA.tk 7 20223 rfl rfl rfl (Val.addL rfl rfl (by first | omega | (simp <;> omega))) ?_ (hro := ro_s)
            refine TA.two 8 12 (by kernel_rfl) ?_ ?_
            · skip
              refine TO.dz 20479 (some 15) rfl rfl rfl rfl (Does.callF go112 rfl (refSip_fn k (lab ++ [1] ++ put8 n) _ (by simp; omega))) ?_
              rintro _ _ ⟨rfl, rfl⟩
              refine ⟨ro_s, ?_⟩
              refine TA.two 12 15 (by kernel_rfl) ?_ ?_
              · skip
                refine TO.dz 24575 (some 19) rfl rfl rfl rfl (Val.does (Val.b2s (l := [2]) rfl us37 ui5 un9 rfl (.some (Rd.get (i := 1) rfl rfl)))) ?_
                rintro _ _ ⟨rfl, rfl⟩
                refine ⟨ro_s, ?_⟩
                refine TA.tk 13 32767 rfl rfl rfl (Val.addL (b := [2]) rfl rfl (by simp; omega)) ?_ (hro := ro_s)
                refine TA.one 15 (by kernel_rfl) ?_
                refine TO.dz 65535 (some 22) rfl rfl rfl rfl (Does.callF go111 rfl (refPut_fn _ _)) ?_
                rintro _ _ ⟨rfl, rfl⟩
                refine ⟨ro_s, ?_⟩
                refine TA.tk 16 131071 rfl rfl rfl (Val.addL rfl rfl (by first | omega | (simp <;> omega))) ?_ (hro := ro_s)
                refine TA.one 17 (by kernel_rfl) ?_
                refine TO.dz 262143 (some 24) rfl rfl rfl rfl (Does.callF go112 rfl (refSip_fn k (lab ++ [2] ++ put8 n) _ (by simp; omega))) ?_
                rintro _ _ ⟨rfl, rfl⟩
                refine ⟨ro_s, ?_⟩
                refine TA.tk 18 524287 rfl rfl rfl (Val.buildA ar69 sz24 ze69 rfl rfl) ?_ (hro := ro_s)
                refine TA.one 19 (by kernel_rfl) ?_
                refine TO.dz 1048575 none rfl rfl rfl rfl (Does.store (i := 2) rfl rfl rfl sz69 rfl rfl (by first | exact Nat.le_of_ble_eq_true rfl | decide | omega) rfl rfl) ?_
                rintro _ _ ⟨rfl, rfl⟩
                refine ⟨ro_s, ?_⟩
                refine TA.done (by kernel_rfl) ?_
                refine AtX.join () ?_ (Sub.cons rfl (Sub.nil _)) ro_s
                trivial
              · skip
                refine TO.dz 53247 (some 22) rfl rfl rfl rfl (Does.callF go111 rfl (refPut_fn _ _)) ?_
                rintro _ _ ⟨rfl, rfl⟩
                refine ⟨ro_s, ?_⟩
                refine TA.one 12 (by kernel_rfl) ?_
                refine TO.dz 57343 (some 19) rfl rfl rfl rfl (Val.does (Val.b2s (l := [2]) rfl us37 ui5 un9 rfl (.some (Rd.get (i := 1) rfl rfl)))) ?_
                rintro _ _ ⟨rfl, rfl⟩
                refine ⟨ro_s, ?_⟩
                refine TA.tk 13 65535 rfl rfl rfl (Val.addL (b := [2]) rfl rfl (by simp; omega)) ?_ (hro := ro_s)
                refine TA.tk 16 131071 rfl rfl rfl (Val.addL rfl rfl (by first | omega | (simp <;> omega))) ?_ (hro := ro_s)
                refine TA.one 17 (by kernel_rfl) ?_
                refine TO.dz 262143 (some 24) rfl rfl rfl rfl (Does.callF go112 rfl (refSip_fn k (lab ++ [2] ++ put8 n) _ (by simp; omega))) ?_
                rintro _ _ ⟨rfl, rfl⟩
                refine ⟨ro_s, ?_⟩
                refine TA.tk 18 524287 rfl rfl rfl (Val.buildA ar69 sz24 ze69 rfl rfl) ?_ (hro := ro_s)
                refine TA.one 19 (by kernel_rfl) ?_
                refine TO.dz 1048575 none rfl rfl rfl rfl (Does.store (i := 2) rfl rfl rfl sz69 rfl rfl (by first | exact Nat.le_of_ble_eq_true rfl | decide | omega) rfl rfl) ?_
                rintro _ _ ⟨rfl, rfl⟩
                refine ⟨ro_s, ?_⟩
                refine TA.done (by kernel_rfl) ?_
                refine AtX.join () ?_ (Sub.cons rfl (Sub.nil _)) ro_s
                trivial
            · skip
              refine TO.dz 24319 (some 19) rfl rfl rfl rfl (Val.does (Val.b2s (l := [2]) rfl us37 ui5 un9 rfl (.some (Rd.get (i := 1) rfl rfl)))) ?_
              rintro _ _ ⟨rfl, rfl⟩
              refine ⟨ro_s, ?_⟩
              refine TA.tk 13 32511 rfl rfl rfl (Val.addL (b := [2]) rfl rfl (by simp; omega)) ?_ (hro := ro_s)
              refine TA.one 8 (by kernel_rfl) ?_
              refine TO.dz 32767 (some 15) rfl rfl rfl rfl (Does.callF go112 rfl (refSip_fn k (lab ++ [1] ++ put8 n) _ (by simp; omega))) ?_
              rintro _ _ ⟨rfl, rfl⟩
              refine ⟨ro_s, ?_⟩
              refine TA.one 15 (by kernel_rfl) ?_
              refine TO.dz 65535 (some 22) rfl rfl rfl rfl (Does.callF go111 rfl (refPut_fn _ _)) ?_
              rintro _ _ ⟨rfl, rfl⟩
              refine ⟨ro_s, ?_⟩
              refine TA.tk 16 131071 rfl rfl rfl (Val.addL rfl rfl (by first | omega | (simp <;> omega))) ?_ (hro := ro_s)
              refine TA.one 17 (by kernel_rfl) ?_
              refine TO.dz 262143 (some 24) rfl rfl rfl rfl (Does.callF go112 rfl (refSip_fn k (lab ++ [2] ++ put8 n) _ (by simp; omega))) ?_
              rintro _ _ ⟨rfl, rfl⟩
              refine ⟨ro_s, ?_⟩
              refine TA.tk 18 524287 rfl rfl rfl (Val.buildA ar69 sz24 ze69 rfl rfl) ?_ (hro := ro_s)
              refine TA.one 19 (by kernel_rfl) ?_
              refine TO.dz 1048575 none rfl rfl rfl rfl (Does.store (i := 2) rfl rfl rfl sz69 rfl rfl (by first | exact Nat.le_of_ble_eq_true rfl | decide | omega) rfl rfl) ?_
              rintro _ _ ⟨rfl, rfl⟩
              refine ⟨ro_s, ?_⟩
              refine TA.done (by kernel_rfl) ?_
              refine AtX.join () ?_ (Sub.cons rfl (Sub.nil _)) ro_s
              trivial
          · skip
            refine TO.dz 24167 (some 19) rfl rfl rfl rfl (Val.does (Val.b2s (l := [2]) rfl us37 ui5 un9 rfl (.some (Rd.get (i := 1) rfl rfl)))) ?_
            rintro _ _ ⟨rfl, rfl⟩
            refine ⟨ro_s, ?_⟩
            refine TA.tk 13 32359 rfl rfl rfl (Val.addL (b := [2]) rfl rfl (by simp; omega)) ?_ (hro := ro_s)
            refine TA.one 3 (by kernel_rfl) ?_
            refine TO.dz 32367 (some 10) rfl rfl rfl rfl (Val.does (Val.b2s (l := [1]) rfl us37 ui5 un9 rfl (.some (Rd.get (i := 0) rfl rfl)))) ?_
            rintro _ _ ⟨rfl, rfl⟩
            refine ⟨ro_s, ?_⟩
            refine TA.tk 4 32383 rfl rfl rfl (Val.addL (b := [1]) rfl rfl (by simp; omega)) ?_ (hro := ro_s)
            refine TA.tk 7 32511 rfl rfl rfl (Val.addL rfl rfl (by first | omega | (simp <;> omega))) ?_ (hro := ro_s)
            refine TA.one 8 (by kernel_rfl) ?_
            refine TO.dz 32767 (some 15) rfl rfl rfl rfl (Does.callF go112 rfl (refSip_fn k (lab ++ [1] ++ put8 n) _ (by simp; omega))) ?_
            rintro _ _ ⟨rfl, rfl⟩
            refine ⟨ro_s, ?_⟩
            refine TA.one 15 (by kernel_rfl) ?_
            refine TO.dz 65535 (some 22) rfl rfl rfl rfl (Does.callF go111 rfl (refPut_fn _ _)) ?_
            rintro _ _ ⟨rfl, rfl⟩
            refine ⟨ro_s, ?_⟩
            refine TA.tk 16 131071 rfl rfl rfl (Val.addL rfl rfl (by first | omega | (simp <;> omega))) ?_ (hro := ro_s)
            refine TA.one 17 (by kernel_rfl) ?_
            refine TO.dz 262143 (some 24) rfl rfl rfl rfl (Does.callF go112 rfl (refSip_fn k (lab ++ [2] ++ put8 n) _ (by simp; omega))) ?_
            rintro _ _ ⟨rfl, rfl⟩
            refine ⟨ro_s, ?_⟩
            refine TA.tk 18 524287 rfl rfl rfl (Val.buildA ar69 sz24 ze69 rfl rfl) ?_ (hro := ro_s)
            refine TA.one 19 (by kernel_rfl) ?_
            refine TO.dz 1048575 none rfl rfl rfl rfl (Does.store (i := 2) rfl rfl rfl sz69 rfl rfl (by first | exact Nat.le_of_ble_eq_true rfl | decide | omega) rfl rfl) ?_
            rintro _ _ ⟨rfl, rfl⟩
            refine ⟨ro_s, ?_⟩
            refine TA.done (by kernel_rfl) ?_
            refine AtX.join () ?_ (Sub.cons rfl (Sub.nil _)) ro_s
            trivial
        · skip
          refine TO.dz 24163 (some 19) rfl rfl rfl rfl (Val.does (Val.b2s (l := [2]) rfl us37 ui5 un9 rfl (.some (Rd.get (i := 0) rfl rfl)))) ?_
          rintro _ _ ⟨rfl, rfl⟩
          refine ⟨ro_s, ?_⟩
          refine TA.tk 13 32355 rfl rfl rfl (Val.addL (b := [2]) rfl rfl (by simp; omega)) ?_ (hro := ro_s)
          refine TA.one 2 (by kernel_rfl) ?_
          refine TO.dz 32359 (some 9) rfl rfl rfl rfl (Does.buildSlice sl37 sz5 ze5 (by decide) (by decide) rfl rfl rfl) ?_
          rintro _ _ ⟨b98, rfl, rfl⟩
          refine ⟨ro_s, ?_⟩
          refine TA.one 3 (by kernel_rfl) ?_
          refine TO.dz 32367 (some 10) rfl rfl rfl rfl (Val.does (Val.b2s (l := [1]) rfl us37 ui5 un9 rfl (.some (Rd.get (i := 0) rfl rfl)))) ?_
          rintro _ _ ⟨rfl, rfl⟩
          refine ⟨ro_s, ?_⟩
          refine TA.tk 4 32383 rfl rfl rfl (Val.addL (b := [1]) rfl rfl (by simp; omega)) ?_ (hro := ro_s)
          refine TA.tk 7 32511 rfl rfl rfl (Val.addL rfl rfl (by first | omega | (simp <;> omega))) ?_ (hro := ro_s)
          refine TA.one 8 (by kernel_rfl) ?_
          refine TO.dz 32767 (some 15) rfl rfl rfl rfl (Does.callF go112 rfl (refSip_fn k (lab ++ [1] ++ put8 n) _ (by simp; omega))) ?_
          rintro _ _ ⟨rfl, rfl⟩
          refine ⟨ro_s, ?_⟩
          refine TA.one 15 (by kernel_rfl) ?_
          refine TO.dz 65535 (some 22) rfl rfl rfl rfl (Does.callF go111 rfl (refPut_fn _ _)) ?_
          rintro _ _ ⟨rfl, rfl⟩
          refine ⟨ro_s, ?_⟩
          refine TA.tk 16 131071 rfl rfl rfl (Val.addL rfl rfl (by first | omega | (simp <;> omega))) ?_ (hro := ro_s)
          refine TA.one 17 (by kernel_rfl) ?_
          refine TO.dz 262143 (some 24) rfl rfl rfl rfl (Does.callF go112 rfl (refSip_fn k (lab ++ [2] ++ put8 n) _ (by simp; omega))) ?_
          rintro _ _ ⟨rfl, rfl⟩
          refine ⟨ro_s, ?_⟩
          refine TA.tk 18 524287 rfl rfl rfl (Val.buildA ar69 sz24 ze69 rfl rfl) ?_ (hro := ro_s)
          refine TA.one 19 (by kernel_rfl) ?_
          refine TO.dz 1048575 none rfl rfl rfl rfl (Does.store (i := 2) rfl rfl rfl sz69 rfl rfl (by first | exact Nat.le_of_ble_eq_true rfl | decide | omega) rfl rfl) ?_
          rintro _ _ ⟨rfl, rfl⟩
          refine ⟨ro_s, ?_⟩
          refine TA.done (by kernel_rfl) ?_
          refine AtX.join () ?_ (Sub.cons rfl (Sub.nil _)) ro_s
          trivial
      · skip
        refine TO.dz 24099 (some 19) rfl rfl rfl rfl (Val.does (Val.b2s (l := [2]) rfl us37 ui5 un9 rfl (.some (Rd.get (i := 0) rfl rfl)))) ?_
        rintro _ _ ⟨rfl, rfl⟩
        refine ⟨ro_s, ?_⟩
        refine TA.tk 13 32291 rfl rfl rfl (Val.addL (b := [2]) rfl rfl (by simp; omega)) ?_ (hro := ro_s)
        refine TA.two 2 6 (by kernel_rfl) ?_ ?_
        · skip
          refine TO.dz 32295 (some 9) rfl rfl rfl rfl (Does.buildSlice sl37 sz5 ze5 (by decide) (by decide) rfl rfl rfl) ?_
          rintro _ _ ⟨b100, rfl, rfl⟩
          refine ⟨ro_s, ?_⟩
          refine TA.two 3 6 (by kernel_rfl) ?_ ?_
          · skip
            refine TO.dz 32303 (some 10) rfl rfl rfl rfl (Val.does (Val.b2s (l := [1]) rfl us37 ui5 un9 rfl (.some (Rd.get (i := 0) rfl rfl)))) ?_
            rintro _ _ ⟨rfl, rfl⟩
            refine ⟨ro_s, ?_⟩
            refine TA.tk 4 32319 rfl rfl rfl (Val.addL (b := [1]) rfl rfl (by simp; omega)) ?_ (hro := ro_s)
            refine TA.one 6 (by kernel_rfl) ?_
            refine TO.dz 32383 (some 13) rfl rfl rfl rfl (Does.callF go111 rfl (refPut_fn _ _)) ?_
            rintro _ _ ⟨rfl, rfl⟩
            refine ⟨ro_s, ?_⟩
            refine TA.tk 7 32511 rfl rfl rfl (Val.addL rfl rfl (by first | omega | (simp <;> omega))) ?_ (hro := ro_s)
            refine TA.one 8 (by kernel_rfl) ?_
            refine TO.dz 32767 (some 15) rfl rfl rfl rfl (Does.callF go112 rfl (refSip_fn k (lab ++ [1] ++ put8 n) _ (by simp; omega))) ?_
            rintro _ _ ⟨rfl, rfl⟩
            refine ⟨ro_s, ?_⟩
            refine TA.one 15 (by kernel_rfl) ?_
            refine TO.dz 65535 (some 22) rfl rfl rfl rfl (Does.callF go111 rfl (refPut_fn _ _)) ?_
            rintro _ _ ⟨rfl, rfl⟩
            refine ⟨ro_s, ?_⟩
            refine TA.tk 16 131071 rfl rfl rfl (Val.addL rfl rfl (by first | omega | (simp <;> omega))) ?_ (hro := ro_s)
            refine TA.one 17 (by kernel_rfl) ?_
            refine TO.dz 262143 (some 24) rfl rfl rfl rfl (Does.callF go112 rfl (refSip_fn k (lab ++ [2] ++ put8 n) _ (by simp; omega))) ?_
            rintro _ _ ⟨rfl, rfl⟩
            refine ⟨ro_s, ?_⟩
            refine TA.tk 18 524287 rfl rfl rfl (Val.buildA ar69 sz24 ze69 rfl rfl) ?_ (hro := ro_s)
            refine TA.one 19 (by kernel_rfl) ?_
            refine TO.dz 1048575 none rfl rfl rfl rfl (Does.store (i := 2) rfl rfl rfl sz69 rfl rfl (by first | exact Nat.le_of_ble_eq_true rfl | decide | omega) rfl rfl) ?_
            rintro _ _ ⟨rfl, rfl⟩
            refine ⟨ro_s, ?_⟩
            refine TA.done (by kernel_rfl) ?_
            refine AtX.join () ?_ (Sub.cons rfl (Sub.nil _)) ro_s
            trivial
          · skip
            refine TO.dz 32359 (some 13) rfl rfl rfl rfl (Does.callF go111 rfl (refPut_fn _ _)) ?_
            rintro _ _ ⟨rfl, rfl⟩
            refine ⟨ro_s, ?_⟩
            refine TA.one 3 (by kernel_rfl) ?_
            refine TO.dz 32367 (some 10) rfl rfl rfl rfl (Val.does (Val.b2s (l := [1]) rfl us37 ui5 un9 rfl (.some (Rd.get (i := 0) rfl rfl)))) ?_
            rintro _ _ ⟨rfl, rfl⟩
            refine ⟨ro_s, ?_⟩
            refine TA.tk 4 32383 rfl rfl rfl (Val.addL (b := [1]) rfl rfl (by simp; omega)) ?_ (hro := ro_s)
            refine TA.tk 7 32511 rfl rfl rfl (Val.addL rfl rfl (by first | omega | (simp <;> omega))) ?_ (hro := ro_s)
            refine TA.one 8 (by kernel_rfl) ?_
            refine TO.dz 32767 (some 15) rfl rfl rfl rfl (Does.callF go112 rfl (refSip_fn k (lab ++ [1] ++ put8 n) _ (by simp; omega))) ?_
            rintro _ _ ⟨rfl, rfl⟩
            refine ⟨ro_s, ?_⟩
            refine TA.one 15 (by kernel_rfl) ?_
            refine TO.dz 65535 (some 22) rfl rfl rfl rfl (Does.callF go111 rfl (refPut_fn _ _)) ?_
            rintro _ _ ⟨rfl, rfl⟩
            refine ⟨ro_s, ?_⟩
            refine TA.tk 16 131071 rfl rfl rfl (Val.addL rfl rfl (by first | omega | (simp <;> omega))) ?_ (hro := ro_s)
            refine TA.one 17 (by kernel_rfl) ?_
            refine TO.dz 262143 (some 24) rfl rfl rfl rfl (Does.callF go112 rfl (refSip_fn k (lab ++ [2] ++ put8 n) _ (by simp; omega))) ?_
            rintro _ _ ⟨rfl, rfl⟩
            refine ⟨ro_s, ?_⟩
            refine TA.tk 18 524287 rfl rfl rfl (Val.buildA ar69 sz24 ze69 rfl rfl) ?_ (hro := ro_s)
            refine TA.one 19 (by kernel_rfl) ?_
            refine TO.dz 1048575 none rfl rfl rfl rfl (Does.store (i := 2) rfl rfl rfl sz69 rfl rfl (by first | exact Nat.le_of_ble_eq_true rfl | decide | omega) rfl rfl) ?_
            rintro _ _ ⟨rfl, rfl⟩
            refine ⟨ro_s, ?_⟩
            refine TA.done (by kernel_rfl) ?_
            refine AtX.join () ?_ (Sub.cons rfl (Sub.nil _)) ro_s
            trivial
        · skip
          refine TO.dz 32355 (some 13) rfl rfl rfl rfl (Does.callF go111 rfl (refPut_fn _ _)) ?_
          rintro _ _ ⟨rfl, rfl⟩
          refine ⟨ro_s, ?_⟩
          refine TA.one 2 (by kernel_rfl) ?_
          refine TO.dz 32359 (some 9) rfl rfl rfl rfl (Does.buildSlice sl37 sz5 ze5 (by decide) (by decide) rfl rfl rfl) ?_
          rintro _ _ ⟨b106, rfl, rfl⟩
          refine ⟨ro_s, ?_⟩
          refine TA.one 3 (by kernel_rfl) ?_
          refine TO.dz 32367 (some 10) rfl rfl rfl rfl (Val.does (Val.b2s (l := [1]) rfl us37 ui5 un9 rfl (.some (Rd.get (i := 0) rfl rfl)))) ?_
          rintro _ _ ⟨rfl, rfl⟩
          refine ⟨ro_s, ?_⟩
          refine TA.tk 4 32383 rfl rfl rfl (Val.addL (b := [1]) rfl rfl (by simp; omega)) ?_ (hro := ro_s)
          refine TA.tk 7 32511 rfl rfl rfl (Val.addL rfl rfl (by first | omega | (simp <;> omega))) ?_ (hro := ro_s)
          refine TA.one 8 (by kernel_rfl) ?_
          refine TO.dz 32767 (some 15) rfl rfl rfl rfl (Does.callF go112 rfl (refSip_fn k (lab ++ [1] ++ put8 n) _ (by simp; omega))) ?_
          rintro _ _ ⟨rfl, rfl⟩
          refine ⟨ro_s, ?_⟩
          refine TA.one 15 (by kernel_rfl) ?_
          refine TO.dz 65535 (some 22) rfl rfl rfl rfl (Does.callF go111 rfl (refPut_fn _ _)) ?_
          rintro _ _ ⟨rfl, rfl⟩
          refine ⟨ro_s, ?_⟩
          refine TA.tk 16 131071 rfl rfl rfl (Val.addL rfl rfl (by first | omega | (simp <;> omega))) ?_ (hro := ro_s)
          refine TA.one 17 (by kernel_rfl) ?_
          refine TO.dz 262143 (some 24) rfl rfl rfl rfl (Does.callF go112 rfl (refSip_fn k (lab ++ [2] ++ put8 n) _ (by simp; omega))) ?_
          rintro _ _ ⟨rfl, rfl⟩
          refine ⟨ro_s, ?_⟩
          refine TA.tk 18 524287 rfl rfl rfl (Val.buildA ar69 sz24 ze69 rfl rfl) ?_ (hro := ro_s)
          refine TA.one 19 (by kernel_rfl) ?_
          refine TO.dz 1048575 none rfl rfl rfl rfl (Does.store (i := 2) rfl rfl rfl sz69 rfl rfl (by first | exact Nat.le_of_ble_eq_true rfl | decide | omega) rfl rfl) ?_
          rintro _ _ ⟨rfl, rfl⟩
          refine ⟨ro_s, ?_⟩
          refine TA.done (by kernel_rfl) ?_
          refine AtX.join () ?_ (Sub.cons rfl (Sub.nil _)) ro_s
          trivial
  · intro _ _
    refine TC.r1 (M' := M) (fn := Try.f94) (fun _ _ h => h) rfl (RV.agg (i := 0) rfl ag69 sz69 rfl rfl rfl) ?_
    exact ⟨rfl, rfl⟩

/-- quorumite/quorumiteref1.Root -/
theorem refRoot_fn (s : Int) (M : Hp) : FnC Try.prog 95 #[.int .u64 s] M (fun v M' => v = .agg #[.int .u64 (rootK s).a, .int .u64 (rootK s).b] ∧ M = M') := by
  refine FnC.intro Try.func95 rfl 8 rfl (by simp) (fun z => ?_)
  refine TC.env (E' := [(0, _)]) (Sub.cons rfl (Sub.nil _)) ?_
  refine TC.sr ?_
  refine TL.d (Does.alloc ze69 rfl) ?_
  rintro _ _ ⟨b1, rfl, rfl⟩
  refine TL.nt ?_
  refine TC.sr ?_
  refine TL.v (Val.move rfl) ?_
  refine TL.v (Val.move rfl) ?_
  refine TL.v (Val.add rfl rfl (r := add64 s 1) rfl) ?_
  refine TL.v (Val.buildA ar69 sz24 ze69 rfl rfl) ?_
  refine TL.d (Does.callF go94 rfl (refDerive_fn ⟨s, add64 s 1⟩ [114, 111, 111, 116] 0 _ (by decide))) ?_
  rintro _ _ ⟨rfl, rfl⟩
  refine TL.d (Does.store (i := 0) rfl rfl rfl sz69 rfl rfl (by first | exact Nat.le_of_ble_eq_true rfl | decide | omega) rfl rfl) ?_
  rintro _ _ ⟨rfl, rfl⟩
  refine TL.nt ?_
  refine TC.r1 (M' := M) (fn := Try.f95) (fun _ _ h => h) rfl (RV.agg (i := 0) rfl ag69 sz69 rfl rfl rfl) ?_
  exact ⟨rfl, rfl⟩

/-- quorumite/quorumiteref1.Of -/
theorem refOf_fn (s who gen : Int) (M : Hp) : FnC Try.prog 59 #[.int .u64 s, .int .i64 who, .int .i64 gen] M (fun v M' => v = .agg #[.int .u64 (macKey s who gen).a, .int .u64 (macKey s who gen).b] ∧ M = M') := by
  refine FnC.intro Try.func59 rfl 15 rfl (by simp) (fun z => ?_)
  refine TC.env (E' := [(0, _), (1, _), (2, _)]) (Sub.cons rfl (Sub.cons rfl (Sub.cons rfl (Sub.nil _)))) ?_
  refine TC.sr ?_
  refine TL.d (Does.alloc ze69 rfl) ?_
  rintro _ _ ⟨b1, rfl, rfl⟩
  refine TL.nt ?_
  refine TC.sr ?_
  refine TL.v (Val.move rfl) ?_
  refine TL.d (Does.callF go95 rfl (refRoot_fn s _)) ?_
  rintro _ _ ⟨rfl, rfl⟩
  refine TL.v (Val.move rfl) ?_
  refine TL.v (Val.convI rfl iu3 in24 rfl) ?_
  refine TL.d (Does.callF go94 rfl (refDerive_fn (rootK s) [119, 104, 111] (IntKind.u64.wrap who) _ (by decide))) ?_
  rintro _ _ ⟨rfl, rfl⟩
  refine TL.v (Val.move rfl) ?_
  refine TL.v (Val.convI rfl iu3 in24 rfl) ?_
  refine TL.d (Does.callF go94 rfl (refDerive_fn (deriveK (rootK s) [119, 104, 111] (IntKind.u64.wrap who)) [103, 101, 110] (IntKind.u64.wrap gen) _ (by decide))) ?_
  rintro _ _ ⟨rfl, rfl⟩
  refine TL.d (Does.store (i := 0) rfl rfl rfl sz69 rfl rfl (by first | exact Nat.le_of_ble_eq_true rfl | decide | omega) rfl rfl) ?_
  rintro _ _ ⟨rfl, rfl⟩
  refine TL.nt ?_
  refine TC.en (E' := [(6, _)]) ?_
  refine TC.r1 (M' := M) (fn := Try.f59) (fun _ _ h => h) rfl (RV.agg (i := 0) rfl ag69 sz69 rfl rfl rfl) ?_
  exact ⟨rfl, rfl⟩

end Go.Proofs.Ytphoapajlcaoeaa
/- walks -/
set_option linter.unusedVariables false
set_option linter.unusedSimpArgs false
set_option maxRecDepth 100000
set_option maxHeartbeats 4000000
namespace Go.Proofs.Ytphoapajlcaoeaa
open Go Go.X
/-- quorumite/quorumiteref1.in -/
theorem refin_fn (n lo hi : Int) (M : Hp) : FnC Try.prog 89 #[.int .i64 n, .int .i64 lo, .int .i64 hi] M (fun v M' => v = .bool (inB n lo hi) ∧ M = M') := by
  refine FnC.intro Try.func89 rfl 15 rfl (by simp) (fun z => ?_)
  refine TC.env (E' := [(0, _), (1, _), (2, _)]) (Sub.cons rfl (Sub.cons rfl (Sub.cons rfl (Sub.nil _)))) ?_
  refine TC.sr ?_
  refine TL.v (Val.assign rfl) ?_
  refine TL.nt ?_
  refine TC.sr ?_
  refine TL.v (Val.move rfl) ?_
  refine TL.v (Val.move rfl) ?_
  refine TL.v (Val.geq rfl rfl) ?_
  refine TL.v (Val.move rfl) ?_
  refine TL.gen (fun g1 hg1 => ?_)
  refine TL.gv rfl rfl rfl (fun hg => by subst hg; exact (Val.move rfl)) ?_
  refine TL.gv rfl rfl rfl (fun hg => by subst hg; exact (Val.move rfl)) ?_
  refine TL.gv rfl rfl rfl (fun hg => by subst hg; exact (Val.leq rfl rfl)) ?_
  refine TL.v (Val.pickAnd rfl rfl rfl) ?_
  refine TL.v (Val.assign rfl) ?_
  refine TL.nt ?_
  refine TC.en (E' := [(6, _)]) ?_
  refine TC.r1 (hM := (fun _ h => h)) (fn := Try.f89) (fun _ _ h => h) rfl (RV.tmp rfl) ?_
  refine ⟨?_, rfl⟩
  subst_vars
  rfl

/-- quorumite/quorumiteref1.MayMsg -/
theorem refMay_fn (m : Ms) (M : Hp) : FnC Try.prog 55 #[.agg #[.int .i64 m.kind, .int .i64 m.who, .int .i64 m.gen, .int .i64 m.seq, .int .i64 m.epoch, .int .i64 m.value, .int .i64 m.metric]] M (fun v M' => ∃ g, v = .bool g ∧ g = mayM m ∧ M = M') := by
  refine FnC.intro Try.func55 rfl 63 rfl (by simp) (fun z => ?_)
  refine TC.env (E' := [(0, _)]) (Sub.cons rfl (Sub.nil _)) ?_
  refine TC.sr ?_
  refine TL.d (Does.box rfl rfl) ?_
  rintro _ _ ⟨b1, rfl, rfl⟩
  refine TL.v (Val.assign rfl) ?_
  refine TL.nt ?_
  refine TC.seq ?_
  refine TC.sr ?_
  refine TL.v (Val.fieldAddr rfl fl61_0 sz3 rfl) ?_
  refine TL.v (Val.load 0 rfl ag3 rfl rfl) ?_
  refine TL.d (Does.callF go89 rfl (refin_fn _ _ _ _)) ?_
  rintro _ _ ⟨rfl, rfl⟩
  refine TL.v (Val.not rfl) ?_
  refine TL.v (Val.move rfl) ?_
  refine TL.gen (fun g3 hg3 => ?_)
  cases g3 with
  | false =>
    refine TL.vy (Val.fieldAddr rfl fl61_1 sz3 rfl) ?_
    refine TL.vy (Val.load 0 rfl ag3 rfl rfl) ?_
    refine TL.dy (Does.callF go89 rfl (refin_fn _ _ _ _)) ?_
    rintro _ _ ⟨rfl, rfl⟩
    refine TL.vy (Val.not rfl) ?_
    refine TL.v (Val.pickOr rfl rfl rfl) ?_
    refine TL.v (Val.move rfl) ?_
    refine TL.gen (fun g5 hg5 => ?_)
    cases g5 with
    | false =>
      refine TL.vy (Val.fieldAddr rfl fl61_2 sz3 rfl) ?_
      refine TL.vy (Val.load 0 rfl ag3 rfl rfl) ?_
      refine TL.dy (Does.callF go89 rfl (refin_fn _ _ _ _)) ?_
      rintro _ _ ⟨rfl, rfl⟩
      refine TL.vy (Val.not rfl) ?_
      refine TL.v (Val.pickOr rfl rfl rfl) ?_
      refine TL.v (Val.move rfl) ?_
      refine TL.gen (fun g7 hg7 => ?_)
      refine TL.gv rfl rfl rfl (fun hg => by subst hg; exact (Val.fieldAddr rfl fl61_3 sz2 rfl)) ?_
      refine TL.gv rfl rfl rfl (fun hg => by subst hg; exact (Val.load 0 rfl ag2 rfl rfl)) ?_
      refine TL.gv rfl rfl rfl (fun hg => by subst hg; exact (Val.lss rfl rfl)) ?_
      refine TL.v (Val.pickOr rfl rfl rfl) ?_
      refine TL.v (Val.move rfl) ?_
      refine TL.gen (fun g8 hg8 => ?_)
      refine TL.gv rfl rfl rfl (fun hg => by subst hg; exact (Val.fieldAddr rfl fl61_3 sz2 rfl)) ?_
      refine TL.gv rfl rfl rfl (fun hg => by subst hg; exact (Val.load 0 rfl ag2 rfl rfl)) ?_
      refine TL.gv rfl rfl rfl (fun hg => by subst hg; exact (Val.gtr rfl rfl)) ?_
      refine TL.v (Val.pickOr rfl rfl rfl) ?_
      refine TL.v (Val.move rfl) ?_
      refine TL.gen (fun g9 hg9 => ?_)
      refine TL.gv rfl rfl rfl (fun hg => by subst hg; exact (Val.fieldAddr rfl fl61_4 sz2 rfl)) ?_
      refine TL.gv rfl rfl rfl (fun hg => by subst hg; exact (Val.load 0 rfl ag2 rfl rfl)) ?_
      refine TL.gv rfl rfl rfl (fun hg => by subst hg; exact (Val.lss rfl rfl)) ?_
      refine TL.v (Val.pickOr rfl rfl rfl) ?_
      refine TL.v (Val.move rfl) ?_
      refine TL.gen (fun g10 hg10 => ?_)
      refine TL.gv rfl rfl rfl (fun hg => by subst hg; exact (Val.fieldAddr rfl fl61_4 sz2 rfl)) ?_
      refine TL.gv rfl rfl rfl (fun hg => by subst hg; exact (Val.load 0 rfl ag2 rfl rfl)) ?_
      refine TL.gv rfl rfl rfl (fun hg => by subst hg; exact (Val.gtr rfl rfl)) ?_
      refine TL.v (Val.pickOr rfl rfl rfl) ?_
      refine TL.nt ?_
      refine TC.en (E' := [(1, _), (2, _), (38, _)]) ?_
      refine TC.cond rfl (fun c1 => ?_) (fun c1 => ?_)
      · skip
        refine TC.sr ?_
        refine TL.v (Val.assign rfl) ?_
        refine TL.nt ?_
        refine TC.r1 (M' := M) (fn := Try.f55) (fun _ _ h => h) rfl (RV.tmp rfl) ?_
        refine ⟨_, rfl, ?_, rfl⟩
        subst_vars
        simp only [mayM, inB] at *
        grind
      · skip
        refine TC.skip ?_
        refine AtX.then ?_
        refine TC.seq ?_
        refine TC.sr ?_
        refine TL.v (Val.fieldAddr rfl fl61_0 sz3 rfl) ?_
        refine TL.v (Val.load 0 rfl ag3 rfl rfl) ?_
        refine TL.v (Val.neqI rfl rfl) ?_
        refine TL.nt ?_
        refine TC.condP rfl (fun c2 => ?_) (fun c2 => ?_)
        · skip
          refine TC.sr ?_
          refine TL.v (Val.fieldAddr rfl fl61_6 sz3 rfl) ?_
          refine TL.v (Val.load 0 rfl ag3 rfl rfl) ?_
          refine TL.v (Val.eqlI rfl rfl) ?_
          refine TL.v (Val.move rfl) ?_
          refine TL.gen (fun g11 hg11 => ?_)
          refine TL.gv rfl rfl rfl (fun hg => by subst hg; exact (Val.fieldAddr rfl fl61_5 sz2 rfl)) ?_
          refine TL.gv rfl rfl rfl (fun hg => by subst hg; exact (Val.load 0 rfl ag2 rfl rfl)) ?_
          refine TL.gv rfl rfl rfl (fun hg => by subst hg; exact (Val.eqlI rfl rfl)) ?_
          refine TL.v (Val.pickAnd rfl rfl rfl) ?_
          refine TL.v (Val.assign rfl) ?_
          refine TL.nt ?_
          refine TC.en (E' := [(1, _), (2, _)]) ?_
          refine TC.r1 (M' := M) (fn := Try.f55) (fun _ _ h => h) rfl (RV.tmp rfl) ?_
          refine ⟨_, rfl, ?_, rfl⟩
          subst_vars
          simp only [mayM, inB] at *
          grind
        · skip
          refine TC.skip ?_
          refine AtX.then ?_
          refine TC.sr ?_
          refine TL.v (Val.fieldAddr rfl fl61_6 sz3 rfl) ?_
          refine TL.v (Val.load 0 rfl ag3 rfl rfl) ?_
          refine TL.d (Does.callF go89 rfl (refin_fn _ _ _ _)) ?_
          rintro _ _ ⟨rfl, rfl⟩
          refine TL.v (Val.move rfl) ?_
          refine TL.gen (fun g13 hg13 => ?_)
          refine TL.gv rfl rfl rfl (fun hg => by subst hg; exact (Val.fieldAddr rfl fl61_5 sz2 rfl)) ?_
          refine TL.gv rfl rfl rfl (fun hg => by subst hg; exact (Val.load 0 rfl ag2 rfl rfl)) ?_
          refine TL.gv rfl rfl rfl (fun hg => by subst hg; exact (Val.geq rfl rfl)) ?_
          refine TL.v (Val.pickAnd rfl rfl rfl) ?_
          refine TL.v (Val.move rfl) ?_
          refine TL.gen (fun g14 hg14 => ?_)
          refine TL.gv rfl rfl rfl (fun hg => by subst hg; exact (Val.fieldAddr rfl fl61_5 sz2 rfl)) ?_
          refine TL.gv rfl rfl rfl (fun hg => by subst hg; exact (Val.load 0 rfl ag2 rfl rfl)) ?_
          refine TL.gv rfl rfl rfl (fun hg => by subst hg; exact (Val.leq rfl rfl)) ?_
          refine TL.v (Val.pickAnd rfl rfl rfl) ?_
          refine TL.v (Val.assign rfl) ?_
          refine TL.nt ?_
          refine TC.en (E' := [(2, _)]) ?_
          refine TC.r1 (M' := M) (fn := Try.f55) (fun _ _ h => h) rfl (RV.tmp rfl) ?_
          refine ⟨_, rfl, ?_, rfl⟩
          subst_vars
          simp only [mayM, inB] at *
          grind
    | true =>
      refine TL.pa ?_
      refine TL.pa ?_
      refine TL.pa ?_
      refine TL.pa ?_
      refine TL.v (Val.pick rfl rfl rfl) ?_
      refine TL.v (Val.move rfl) ?_
      refine TL.gen (fun g15 hg15 => ?_)
      refine TL.gv rfl rfl rfl (fun hg => by subst hg; exact (Val.fieldAddr rfl fl61_3 sz2 rfl)) ?_
      refine TL.gv rfl rfl rfl (fun hg => by subst hg; exact (Val.load 0 rfl ag2 rfl rfl)) ?_
      refine TL.gv rfl rfl rfl (fun hg => by subst hg; exact (Val.lss rfl rfl)) ?_
      refine TL.v (Val.pickOr rfl rfl rfl) ?_
      refine TL.v (Val.move rfl) ?_
      refine TL.gen (fun g16 hg16 => ?_)
      refine TL.gv rfl rfl rfl (fun hg => by subst hg; exact (Val.fieldAddr rfl fl61_3 sz2 rfl)) ?_
      refine TL.gv rfl rfl rfl (fun hg => by subst hg; exact (Val.load 0 rfl ag2 rfl rfl)) ?_
      refine TL.gv rfl rfl rfl (fun hg => by subst hg; exact (Val.gtr rfl rfl)) ?_
      refine TL.v (Val.pickOr rfl rfl rfl) ?_
      refine TL.v (Val.move rfl) ?_
      refine TL.gen (fun g17 hg17 => ?_)
      refine TL.gv rfl rfl rfl (fun hg => by subst hg; exact (Val.fieldAddr rfl fl61_4 sz2 rfl)) ?_
      refine TL.gv rfl rfl rfl (fun hg => by subst hg; exact (Val.load 0 rfl ag2 rfl rfl)) ?_
      refine TL.gv rfl rfl rfl (fun hg => by subst hg; exact (Val.lss rfl rfl)) ?_
      refine TL.v (Val.pickOr rfl rfl rfl) ?_
      refine TL.v (Val.move rfl) ?_
      refine TL.gen (fun g18 hg18 => ?_)
      refine TL.gv rfl rfl rfl (fun hg => by subst hg; exact (Val.fieldAddr rfl fl61_4 sz2 rfl)) ?_
      refine TL.gv rfl rfl rfl (fun hg => by subst hg; exact (Val.load 0 rfl ag2 rfl rfl)) ?_
      refine TL.gv rfl rfl rfl (fun hg => by subst hg; exact (Val.gtr rfl rfl)) ?_
      refine TL.v (Val.pickOr rfl rfl rfl) ?_
      refine TL.nt ?_
      refine TC.en (E' := [(1, _), (2, _), (38, _)]) ?_
      refine TC.cond rfl (fun c3 => ?_) (fun c3 => ?_)
      · skip
        refine TC.sr ?_
        refine TL.v (Val.assign rfl) ?_
        refine TL.nt ?_
        refine TC.r1 (M' := M) (fn := Try.f55) (fun _ _ h => h) rfl (RV.tmp rfl) ?_
        refine ⟨_, rfl, ?_, rfl⟩
        subst_vars
        simp only [mayM, inB] at *
        grind
      · skip
        refine TC.skip ?_
        refine AtX.then ?_
        refine TC.seq ?_
        refine TC.sr ?_
        refine TL.v (Val.fieldAddr rfl fl61_0 sz3 rfl) ?_
        refine TL.v (Val.load 0 rfl ag3 rfl rfl) ?_
        refine TL.v (Val.neqI rfl rfl) ?_
        refine TL.nt ?_
        refine TC.condP rfl (fun c4 => ?_) (fun c4 => ?_)
        · skip
          refine TC.sr ?_
          refine TL.v (Val.fieldAddr rfl fl61_6 sz3 rfl) ?_
          refine TL.v (Val.load 0 rfl ag3 rfl rfl) ?_
          refine TL.v (Val.eqlI rfl rfl) ?_
          refine TL.v (Val.move rfl) ?_
          refine TL.gen (fun g19 hg19 => ?_)
          refine TL.gv rfl rfl rfl (fun hg => by subst hg; exact (Val.fieldAddr rfl fl61_5 sz2 rfl)) ?_
          refine TL.gv rfl rfl rfl (fun hg => by subst hg; exact (Val.load 0 rfl ag2 rfl rfl)) ?_
          refine TL.gv rfl rfl rfl (fun hg => by subst hg; exact (Val.eqlI rfl rfl)) ?_
          refine TL.v (Val.pickAnd rfl rfl rfl) ?_
          refine TL.v (Val.assign rfl) ?_
          refine TL.nt ?_
          refine TC.en (E' := [(1, _), (2, _)]) ?_
          refine TC.r1 (M' := M) (fn := Try.f55) (fun _ _ h => h) rfl (RV.tmp rfl) ?_
          refine ⟨_, rfl, ?_, rfl⟩
          subst_vars
          simp only [mayM, inB] at *
          grind
        · skip
          refine TC.skip ?_
          refine AtX.then ?_
          refine TC.sr ?_
          refine TL.v (Val.fieldAddr rfl fl61_6 sz3 rfl) ?_
          refine TL.v (Val.load 0 rfl ag3 rfl rfl) ?_
          refine TL.d (Does.callF go89 rfl (refin_fn _ _ _ _)) ?_
          rintro _ _ ⟨rfl, rfl⟩
          refine TL.v (Val.move rfl) ?_
          refine TL.gen (fun g21 hg21 => ?_)
          refine TL.gv rfl rfl rfl (fun hg => by subst hg; exact (Val.fieldAddr rfl fl61_5 sz2 rfl)) ?_
          refine TL.gv rfl rfl rfl (fun hg => by subst hg; exact (Val.load 0 rfl ag2 rfl rfl)) ?_
          refine TL.gv rfl rfl rfl (fun hg => by subst hg; exact (Val.geq rfl rfl)) ?_
          refine TL.v (Val.pickAnd rfl rfl rfl) ?_
          refine TL.v (Val.move rfl) ?_
          refine TL.gen (fun g22 hg22 => ?_)
          refine TL.gv rfl rfl rfl (fun hg => by subst hg; exact (Val.fieldAddr rfl fl61_5 sz2 rfl)) ?_
          refine TL.gv rfl rfl rfl (fun hg => by subst hg; exact (Val.load 0 rfl ag2 rfl rfl)) ?_
          refine TL.gv rfl rfl rfl (fun hg => by subst hg; exact (Val.leq rfl rfl)) ?_
          refine TL.v (Val.pickAnd rfl rfl rfl) ?_
          refine TL.v (Val.assign rfl) ?_
          refine TL.nt ?_
          refine TC.en (E' := [(2, _)]) ?_
          refine TC.r1 (M' := M) (fn := Try.f55) (fun _ _ h => h) rfl (RV.tmp rfl) ?_
          refine ⟨_, rfl, ?_, rfl⟩
          subst_vars
          simp only [mayM, inB] at *
          grind
  | true =>
    refine TL.pa ?_
    refine TL.pa ?_
    refine TL.pa ?_
    refine TL.pa ?_
    refine TL.v (Val.pick rfl rfl rfl) ?_
    refine TL.v (Val.move rfl) ?_
    refine TL.gen (fun g23 hg23 => ?_)
    cases g23 with
    | false =>
      refine TL.vy (Val.fieldAddr rfl fl61_2 sz3 rfl) ?_
      refine TL.vy (Val.load 0 rfl ag3 rfl rfl) ?_
      refine TL.dy (Does.callF go89 rfl (refin_fn _ _ _ _)) ?_
      rintro _ _ ⟨rfl, rfl⟩
      refine TL.vy (Val.not rfl) ?_
      refine TL.v (Val.pickOr rfl rfl rfl) ?_
      refine TL.v (Val.move rfl) ?_
      refine TL.gen (fun g25 hg25 => ?_)
      refine TL.gv rfl rfl rfl (fun hg => by subst hg; exact (Val.fieldAddr rfl fl61_3 sz2 rfl)) ?_
      refine TL.gv rfl rfl rfl (fun hg => by subst hg; exact (Val.load 0 rfl ag2 rfl rfl)) ?_
      refine TL.gv rfl rfl rfl (fun hg => by subst hg; exact (Val.lss rfl rfl)) ?_
      refine TL.v (Val.pickOr rfl rfl rfl) ?_
      refine TL.v (Val.move rfl) ?_
      refine TL.gen (fun g26 hg26 => ?_)
      refine TL.gv rfl rfl rfl (fun hg => by subst hg; exact (Val.fieldAddr rfl fl61_3 sz2 rfl)) ?_
      refine TL.gv rfl rfl rfl (fun hg => by subst hg; exact (Val.load 0 rfl ag2 rfl rfl)) ?_
      refine TL.gv rfl rfl rfl (fun hg => by subst hg; exact (Val.gtr rfl rfl)) ?_
      refine TL.v (Val.pickOr rfl rfl rfl) ?_
      refine TL.v (Val.move rfl) ?_
      refine TL.gen (fun g27 hg27 => ?_)
      refine TL.gv rfl rfl rfl (fun hg => by subst hg; exact (Val.fieldAddr rfl fl61_4 sz2 rfl)) ?_
      refine TL.gv rfl rfl rfl (fun hg => by subst hg; exact (Val.load 0 rfl ag2 rfl rfl)) ?_
      refine TL.gv rfl rfl rfl (fun hg => by subst hg; exact (Val.lss rfl rfl)) ?_
      refine TL.v (Val.pickOr rfl rfl rfl) ?_
      refine TL.v (Val.move rfl) ?_
      refine TL.gen (fun g28 hg28 => ?_)
      refine TL.gv rfl rfl rfl (fun hg => by subst hg; exact (Val.fieldAddr rfl fl61_4 sz2 rfl)) ?_
      refine TL.gv rfl rfl rfl (fun hg => by subst hg; exact (Val.load 0 rfl ag2 rfl rfl)) ?_
      refine TL.gv rfl rfl rfl (fun hg => by subst hg; exact (Val.gtr rfl rfl)) ?_
      refine TL.v (Val.pickOr rfl rfl rfl) ?_
      refine TL.nt ?_
      refine TC.en (E' := [(1, _), (2, _), (38, _)]) ?_
      refine TC.cond rfl (fun c5 => ?_) (fun c5 => ?_)
      · skip
        refine TC.sr ?_
        refine TL.v (Val.assign rfl) ?_
        refine TL.nt ?_
        refine TC.r1 (M' := M) (fn := Try.f55) (fun _ _ h => h) rfl (RV.tmp rfl) ?_
        refine ⟨_, rfl, ?_, rfl⟩
        subst_vars
        simp only [mayM, inB] at *
        grind
      · skip
        refine TC.skip ?_
        refine AtX.then ?_
        refine TC.seq ?_
        refine TC.sr ?_
        refine TL.v (Val.fieldAddr rfl fl61_0 sz3 rfl) ?_
        refine TL.v (Val.load 0 rfl ag3 rfl rfl) ?_
        refine TL.v (Val.neqI rfl rfl) ?_
        refine TL.nt ?_
        refine TC.condP rfl (fun c6 => ?_) (fun c6 => ?_)
        · skip
          refine TC.sr ?_
          refine TL.v (Val.fieldAddr rfl fl61_6 sz3 rfl) ?_
          refine TL.v (Val.load 0 rfl ag3 rfl rfl) ?_
          refine TL.v (Val.eqlI rfl rfl) ?_
          refine TL.v (Val.move rfl) ?_
          refine TL.gen (fun g29 hg29 => ?_)
          refine TL.gv rfl rfl rfl (fun hg => by subst hg; exact (Val.fieldAddr rfl fl61_5 sz2 rfl)) ?_
          refine TL.gv rfl rfl rfl (fun hg => by subst hg; exact (Val.load 0 rfl ag2 rfl rfl)) ?_
          refine TL.gv rfl rfl rfl (fun hg => by subst hg; exact (Val.eqlI rfl rfl)) ?_
          refine TL.v (Val.pickAnd rfl rfl rfl) ?_
          refine TL.v (Val.assign rfl) ?_
          refine TL.nt ?_
          refine TC.en (E' := [(1, _), (2, _)]) ?_
          refine TC.r1 (M' := M) (fn := Try.f55) (fun _ _ h => h) rfl (RV.tmp rfl) ?_
          refine ⟨_, rfl, ?_, rfl⟩
          subst_vars
          simp only [mayM, inB] at *
          grind
        · skip
          refine TC.skip ?_
          refine AtX.then ?_
          refine TC.sr ?_
          refine TL.v (Val.fieldAddr rfl fl61_6 sz3 rfl) ?_
          refine TL.v (Val.load 0 rfl ag3 rfl rfl) ?_
          refine TL.d (Does.callF go89 rfl (refin_fn _ _ _ _)) ?_
          rintro _ _ ⟨rfl, rfl⟩
          refine TL.v (Val.move rfl) ?_
          refine TL.gen (fun g31 hg31 => ?_)
          refine TL.gv rfl rfl rfl (fun hg => by subst hg; exact (Val.fieldAddr rfl fl61_5 sz2 rfl)) ?_
          refine TL.gv rfl rfl rfl (fun hg => by subst hg; exact (Val.load 0 rfl ag2 rfl rfl)) ?_
          refine TL.gv rfl rfl rfl (fun hg => by subst hg; exact (Val.geq rfl rfl)) ?_
          refine TL.v (Val.pickAnd rfl rfl rfl) ?_
          refine TL.v (Val.move rfl) ?_
          refine TL.gen (fun g32 hg32 => ?_)
          refine TL.gv rfl rfl rfl (fun hg => by subst hg; exact (Val.fieldAddr rfl fl61_5 sz2 rfl)) ?_
          refine TL.gv rfl rfl rfl (fun hg => by subst hg; exact (Val.load 0 rfl ag2 rfl rfl)) ?_
          refine TL.gv rfl rfl rfl (fun hg => by subst hg; exact (Val.leq rfl rfl)) ?_
          refine TL.v (Val.pickAnd rfl rfl rfl) ?_
          refine TL.v (Val.assign rfl) ?_
          refine TL.nt ?_
          refine TC.en (E' := [(2, _)]) ?_
          refine TC.r1 (M' := M) (fn := Try.f55) (fun _ _ h => h) rfl (RV.tmp rfl) ?_
          refine ⟨_, rfl, ?_, rfl⟩
          subst_vars
          simp only [mayM, inB] at *
          grind
    | true =>
      refine TL.pa ?_
      refine TL.pa ?_
      refine TL.pa ?_
      refine TL.pa ?_
      refine TL.v (Val.pick rfl rfl rfl) ?_
      refine TL.v (Val.move rfl) ?_
      refine TL.gen (fun g33 hg33 => ?_)
      refine TL.gv rfl rfl rfl (fun hg => by subst hg; exact (Val.fieldAddr rfl fl61_3 sz2 rfl)) ?_
      refine TL.gv rfl rfl rfl (fun hg => by subst hg; exact (Val.load 0 rfl ag2 rfl rfl)) ?_
      refine TL.gv rfl rfl rfl (fun hg => by subst hg; exact (Val.lss rfl rfl)) ?_
      refine TL.v (Val.pickOr rfl rfl rfl) ?_
      refine TL.v (Val.move rfl) ?_
      refine TL.gen (fun g34 hg34 => ?_)
      refine TL.gv rfl rfl rfl (fun hg => by subst hg; exact (Val.fieldAddr rfl fl61_3 sz2 rfl)) ?_
      refine TL.gv rfl rfl rfl (fun hg => by subst hg; exact (Val.load 0 rfl ag2 rfl rfl)) ?_
      refine TL.gv rfl rfl rfl (fun hg => by subst hg; exact (Val.gtr rfl rfl)) ?_
      refine TL.v (Val.pickOr rfl rfl rfl) ?_
      refine TL.v (Val.move rfl) ?_
      refine TL.gen (fun g35 hg35 => ?_)
      refine TL.gv rfl rfl rfl (fun hg => by subst hg; exact (Val.fieldAddr rfl fl61_4 sz2 rfl)) ?_
      refine TL.gv rfl rfl rfl (fun hg => by subst hg; exact (Val.load 0 rfl ag2 rfl rfl)) ?_
      refine TL.gv rfl rfl rfl (fun hg => by subst hg; exact (Val.lss rfl rfl)) ?_
      refine TL.v (Val.pickOr rfl rfl rfl) ?_
      refine TL.v (Val.move rfl) ?_
      refine TL.gen (fun g36 hg36 => ?_)
      refine TL.gv rfl rfl rfl (fun hg => by subst hg; exact (Val.fieldAddr rfl fl61_4 sz2 rfl)) ?_
      refine TL.gv rfl rfl rfl (fun hg => by subst hg; exact (Val.load 0 rfl ag2 rfl rfl)) ?_
      refine TL.gv rfl rfl rfl (fun hg => by subst hg; exact (Val.gtr rfl rfl)) ?_
      refine TL.v (Val.pickOr rfl rfl rfl) ?_
      refine TL.nt ?_
      refine TC.en (E' := [(1, _), (2, _), (38, _)]) ?_
      refine TC.cond rfl (fun c7 => ?_) (fun c7 => ?_)
      · skip
        refine TC.sr ?_
        refine TL.v (Val.assign rfl) ?_
        refine TL.nt ?_
        refine TC.r1 (M' := M) (fn := Try.f55) (fun _ _ h => h) rfl (RV.tmp rfl) ?_
        refine ⟨_, rfl, ?_, rfl⟩
        subst_vars
        simp only [mayM, inB] at *
        grind
      · skip
        refine TC.skip ?_
        refine AtX.then ?_
        refine TC.seq ?_
        refine TC.sr ?_
        refine TL.v (Val.fieldAddr rfl fl61_0 sz3 rfl) ?_
        refine TL.v (Val.load 0 rfl ag3 rfl rfl) ?_
        refine TL.v (Val.neqI rfl rfl) ?_
        refine TL.nt ?_
        refine TC.condP rfl (fun c8 => ?_) (fun c8 => ?_)
        · skip
          refine TC.sr ?_
          refine TL.v (Val.fieldAddr rfl fl61_6 sz3 rfl) ?_
          refine TL.v (Val.load 0 rfl ag3 rfl rfl) ?_
          refine TL.v (Val.eqlI rfl rfl) ?_
          refine TL.v (Val.move rfl) ?_
          refine TL.gen (fun g37 hg37 => ?_)
          refine TL.gv rfl rfl rfl (fun hg => by subst hg; exact (Val.fieldAddr rfl fl61_5 sz2 rfl)) ?_
          refine TL.gv rfl rfl rfl (fun hg => by subst hg; exact (Val.load 0 rfl ag2 rfl rfl)) ?_
          refine TL.gv rfl rfl rfl (fun hg => by subst hg; exact (Val.eqlI rfl rfl)) ?_
          refine TL.v (Val.pickAnd rfl rfl rfl) ?_
          refine TL.v (Val.assign rfl) ?_
          refine TL.nt ?_
          refine TC.en (E' := [(1, _), (2, _)]) ?_
          refine TC.r1 (M' := M) (fn := Try.f55) (fun _ _ h => h) rfl (RV.tmp rfl) ?_
          refine ⟨_, rfl, ?_, rfl⟩
          subst_vars
          simp only [mayM, inB] at *
          grind
        · skip
          refine TC.skip ?_
          refine AtX.then ?_
          refine TC.sr ?_
          refine TL.v (Val.fieldAddr rfl fl61_6 sz3 rfl) ?_
          refine TL.v (Val.load 0 rfl ag3 rfl rfl) ?_
          refine TL.d (Does.callF go89 rfl (refin_fn _ _ _ _)) ?_
          rintro _ _ ⟨rfl, rfl⟩
          refine TL.v (Val.move rfl) ?_
          refine TL.gen (fun g39 hg39 => ?_)
          refine TL.gv rfl rfl rfl (fun hg => by subst hg; exact (Val.fieldAddr rfl fl61_5 sz2 rfl)) ?_
          refine TL.gv rfl rfl rfl (fun hg => by subst hg; exact (Val.load 0 rfl ag2 rfl rfl)) ?_
          refine TL.gv rfl rfl rfl (fun hg => by subst hg; exact (Val.geq rfl rfl)) ?_
          refine TL.v (Val.pickAnd rfl rfl rfl) ?_
          refine TL.v (Val.move rfl) ?_
          refine TL.gen (fun g40 hg40 => ?_)
          refine TL.gv rfl rfl rfl (fun hg => by subst hg; exact (Val.fieldAddr rfl fl61_5 sz2 rfl)) ?_
          refine TL.gv rfl rfl rfl (fun hg => by subst hg; exact (Val.load 0 rfl ag2 rfl rfl)) ?_
          refine TL.gv rfl rfl rfl (fun hg => by subst hg; exact (Val.leq rfl rfl)) ?_
          refine TL.v (Val.pickAnd rfl rfl rfl) ?_
          refine TL.v (Val.assign rfl) ?_
          refine TL.nt ?_
          refine TC.en (E' := [(2, _)]) ?_
          refine TC.r1 (M' := M) (fn := Try.f55) (fun _ _ h => h) rfl (RV.tmp rfl) ?_
          refine ⟨_, rfl, ?_, rfl⟩
          subst_vars
          simp only [mayM, inB] at *
          grind

end Go.Proofs.Ytphoapajlcaoeaa
/- walks -/
set_option linter.unusedVariables false
set_option linter.unusedSimpArgs false
set_option maxRecDepth 100000
set_option maxHeartbeats 4000000
namespace Go.Proofs.Ytphoapajlcaoeaa
open Go Go.X
/-- quorumite/quorumiteref1.PutMsg -/
theorem refPutM_yes (m : Ms) (M : Hp) (hm : mayM m = true) : FnC Try.prog 91 #[.agg #[.int .i64 m.kind, .int .i64 m.who, .int .i64 m.gen, .int .i64 m.seq, .int .i64 m.epoch, .int .i64 m.value, .int .i64 m.metric]] M (fun v M' => v = .tuple #[.string (ofL (putM m)), .int .i64 0] ∧ M = M') := by
  refine FnC.intro Try.func91 rfl 39 rfl (by simp) (fun z => ?_)
  refine TC.env (E' := [(0, _)]) (Sub.cons rfl (Sub.nil _)) ?_
  refine TC.sr ?_
  refine TL.d (Does.box rfl rfl) ?_
  rintro _ _ ⟨b1, rfl, rfl⟩
  refine TL.v (Val.assign rfl) ?_
  refine TL.v (Val.assign rfl) ?_
  refine TL.nt ?_
  refine TC.seq ?_
  refine TC.sr ?_
  refine TL.v (Val.loadAgg 0 rfl ag61 sz61 rfl rfl rfl) ?_
  refine TL.d (Does.callF go55 rfl (refMay_fn m _)) ?_
  rintro _ _ ⟨g1, rfl, hg1_, rfl⟩
  refine TL.v (Val.not rfl) ?_
  refine TL.nt ?_
  refine TC.condB rfl (fun c1 => ?_) (fun c1 => ?_)
  · skip
    (rw [hg1_, hm] at c1; cases c1)
  · skip
    refine TC.skip ?_
    refine AtX.then ?_
    refine TC.join (ι := Unit) (fun _ => [(2, .string (ofL (putM m))), (3, .int .i64 0)]) (fun _ => M) (fun _ => True) ?_ ?_
    · skip
      refine TC.drawL ((b1, .cells #[.int .i64 m.kind, .int .i64 m.who, .int .i64 m.gen, .int .i64 m.seq, .int .i64 m.epoch, .int .i64 m.value, .int .i64 m.metric] 61 (0, 0)) :: M) mixed 34 ?_
      refine TA.tk 0 1 rfl rfl rfl (Val.fieldAddr rfl fl61_0 sz3 rfl) ?_ (hro := ro_s)
      refine TA.tk 1 3 rfl rfl rfl (Val.load 0 rfl ag3 rfl rfl) ?_ (hro := ro_s)
      refine TA.tk 2 7 rfl rfl rfl (Val.convI rfl iu3 in5 w_b8) ?_ (hro := ro_s)
      refine TA.tk 3 15 rfl rfl rfl (Val.fieldAddr rfl fl61_1 sz3 rfl) ?_ (hro := ro_s)
      refine TA.tk 4 31 rfl rfl rfl (Val.load 0 rfl ag3 rfl rfl) ?_ (hro := ro_s)
      refine TA.tk 5 63 rfl rfl rfl (Val.convI rfl iu3 in5 w_b8) ?_ (hro := ro_s)
      refine TA.tk 6 127 rfl rfl rfl (Val.fieldAddr rfl fl61_6 sz3 rfl) ?_ (hro := ro_s)
      refine TA.tk 7 255 rfl rfl rfl (Val.load 0 rfl ag3 rfl rfl) ?_ (hro := ro_s)
      refine TA.tk 8 511 rfl rfl rfl (Val.convI rfl iu3 in5 w_b8) ?_ (hro := ro_s)
      refine TA.tk 11 2559 rfl rfl rfl (Val.fieldAddr rfl fl61_2 sz3 rfl) ?_ (hro := ro_s)
      refine TA.tk 12 6655 rfl rfl rfl (Val.load 0 rfl ag3 rfl rfl) ?_ (hro := ro_s)
      refine TA.tk 13 14847 rfl rfl rfl (Val.convI rfl iu3 in24 rfl) ?_ (hro := ro_s)
      refine TA.tk 17 145919 rfl rfl rfl (Val.fieldAddr rfl fl61_3 sz2 rfl) ?_ (hro := ro_s)
      refine TA.tk 18 408063 rfl rfl rfl (Val.load 0 rfl ag2 rfl rfl) ?_ (hro := ro_s)
      refine TA.tk 19 932351 rfl rfl rfl (Val.convI rfl iu2 in24 rfl) ?_ (hro := ro_s)
      refine TA.tk 22 5126655 rfl rfl rfl (Val.fieldAddr rfl fl61_4 sz2 rfl) ?_ (hro := ro_s)
      refine TA.tk 23 13515263 rfl rfl rfl (Val.load 0 rfl ag2 rfl rfl) ?_ (hro := ro_s)
      refine TA.tk 24 30292479 rfl rfl rfl (Val.convI rfl iu2 in24 rfl) ?_ (hro := ro_s)
      refine TA.tk 27 164510207 rfl rfl rfl (Val.fieldAddr rfl fl61_5 sz2 rfl) ?_ (hro := ro_s)
      refine TA.tk 28 432945663 rfl rfl rfl (Val.load 0 rfl ag2 rfl rfl) ?_ (hro := ro_s)
      refine TA.tk 29 969816575 rfl rfl rfl (Val.convI rfl iu2 in24 rfl) ?_ (hro := ro_s)
      refine TA.two 9 14 (by kernel_rfl) ?_ ?_
      · skip
        refine TO.dz 969817087 (some 16) rfl rfl rfl rfl (Does.buildSlice sl37 sz5 ze5 (by decide) (by decide) rfl rfl rfl) ?_
        rintro _ _ ⟨b3, rfl, rfl⟩
        refine ⟨ro_s, ?_⟩
        refine TA.two 10 14 (by kernel_rfl) ?_ ?_
        · skip
          refine TO.dz 969818111 (some 17) rfl rfl rfl rfl (Val.does (Val.b2s (l := [1, Go.X.b8 m.kind, Go.X.b8 m.who, Go.X.b8 m.metric]) rfl us37 ui5 un9 rfl (.some (Rd.get (i := 0) rfl rfl)))) ?_
          rintro _ _ ⟨rfl, rfl⟩
          refine ⟨ro_s, ?_⟩
          refine TA.one 14 (by kernel_rfl) ?_
          refine TO.dz 969834495 (some 21) rfl rfl rfl rfl (Does.callF go111 rfl (refPut_fn _ _)) ?_
          rintro _ _ ⟨rfl, rfl⟩
          refine ⟨ro_s, ?_⟩
          refine TA.tk 15 969867263 rfl rfl rfl (Val.sliceL (i := 0) (j := 4) rfl un9 rfl rfl rfl rfl (by omega) (by simp)) ?_ (hro := ro_s)
          refine TA.tk 16 969932799 rfl rfl rfl (Val.addL rfl rfl (by first | omega | (simp <;> omega))) ?_ (hro := ro_s)
          refine TA.one 20 (by kernel_rfl) ?_
          refine TO.dz 970981375 (some 27) rfl rfl rfl rfl (Does.callF go111 rfl (refPut_fn _ _)) ?_
          rintro _ _ ⟨rfl, rfl⟩
          refine ⟨ro_s, ?_⟩
          refine TA.tk 21 973078527 rfl rfl rfl (Val.addL rfl rfl (by first | omega | (simp <;> omega))) ?_ (hro := ro_s)
          refine TA.one 25 (by kernel_rfl) ?_
          refine TO.dz 1006632959 (some 32) rfl rfl rfl rfl (Does.callF go111 rfl (refPut_fn _ _)) ?_
          rintro _ _ ⟨rfl, rfl⟩
          refine ⟨ro_s, ?_⟩
          refine TA.tk 26 1073741823 rfl rfl rfl (Val.addL rfl rfl (by first | omega | (simp <;> omega))) ?_ (hro := ro_s)
          refine TA.one 30 (by kernel_rfl) ?_
          refine TO.dz 2147483647 (some 37) rfl rfl rfl rfl (Does.callF go111 rfl (refPut_fn _ _)) ?_
          rintro _ _ ⟨rfl, rfl⟩
          refine ⟨ro_s, ?_⟩
          refine TA.tk 31 4294967295 rfl rfl rfl (Val.addL rfl rfl (by first | omega | (simp <;> omega))) ?_ (hro := ro_s)
          refine TA.tk 32 8589934591 rfl rfl rfl (Val.assign rfl) ?_ (hro := ro_s)
          refine TA.tk 33 17179869183 rfl rfl rfl (Val.assign rfl) ?_ (hro := ro_s)
          refine TA.done (by kernel_rfl) ?_
          refine AtX.join () ?_ (Sub.cons rfl (Sub.cons rfl (Sub.nil _))) ro_s
          trivial
        · skip
          refine TO.dz 969833471 (some 21) rfl rfl rfl rfl (Does.callF go111 rfl (refPut_fn _ _)) ?_
          rintro _ _ ⟨rfl, rfl⟩
          refine ⟨ro_s, ?_⟩
          refine TA.tk 15 969866239 rfl rfl rfl (Val.sliceL (i := 0) (j := 4) rfl un9 rfl rfl rfl rfl (by omega) (by simp)) ?_ (hro := ro_s)
          refine TA.two 10 20 (by kernel_rfl) ?_ ?_
          · skip
            refine TO.dz 969867263 (some 17) rfl rfl rfl rfl (Val.does (Val.b2s (l := [1, Go.X.b8 m.kind, Go.X.b8 m.who, Go.X.b8 m.metric]) rfl us37 ui5 un9 rfl (.some (Rd.get (i := 0) rfl rfl)))) ?_
            rintro _ _ ⟨rfl, rfl⟩
            refine ⟨ro_s, ?_⟩
            refine TA.tk 16 969932799 rfl rfl rfl (Val.addL rfl rfl (by first | omega | (simp <;> omega))) ?_ (hro := ro_s)
            refine TA.one 20 (by kernel_rfl) ?_
            refine TO.dz 970981375 (some 27) rfl rfl rfl rfl (Does.callF go111 rfl (refPut_fn _ _)) ?_
            rintro _ _ ⟨rfl, rfl⟩
            refine ⟨ro_s, ?_⟩
            refine TA.tk 21 973078527 rfl rfl rfl (Val.addL rfl rfl (by first | omega | (simp <;> omega))) ?_ (hro := ro_s)
            refine TA.one 25 (by kernel_rfl) ?_
            refine TO.dz 1006632959 (some 32) rfl rfl rfl rfl (Does.callF go111 rfl (refPut_fn _ _)) ?_
            rintro _ _ ⟨rfl, rfl⟩
            refine ⟨ro_s, ?_⟩
            refine TA.tk 26 1073741823 rfl rfl rfl (Val.addL rfl rfl (by first | omega | (simp <;> omega))) ?_ (hro := ro_s)
            refine TA.one 30 (by kernel_rfl) ?_
            refine TO.dz 2147483647 (some 37) rfl rfl rfl rfl (Does.callF go111 rfl (refPut_fn _ _)) ?_
            rintro _ _ ⟨rfl, rfl⟩
            refine ⟨ro_s, ?_⟩
            refine TA.tk 31 4294967295 rfl rfl rfl (Val.addL rfl rfl (by first | omega | (simp <;> omega))) ?_ (hro := ro_s)
            refine TA.tk 32 8589934591 rfl rfl rfl (Val.assign rfl) ?_ (hro := ro_s)
            refine TA.tk 33 17179869183 rfl rfl rfl (Val.assign rfl) ?_ (hro := ro_s)
            refine TA.done (by kernel_rfl) ?_
            refine AtX.join () ?_ (Sub.cons rfl (Sub.cons rfl (Sub.nil _))) ro_s
            trivial
          · skip
            refine TO.dz 970914815 (some 27) rfl rfl rfl rfl (Does.callF go111 rfl (refPut_fn _ _)) ?_
            rintro _ _ ⟨rfl, rfl⟩
            refine ⟨ro_s, ?_⟩
            refine TA.two 10 25 (by kernel_rfl) ?_ ?_
            · skip
              refine TO.dz 970915839 (some 17) rfl rfl rfl rfl (Val.does (Val.b2s (l := [1, Go.X.b8 m.kind, Go.X.b8 m.who, Go.X.b8 m.metric]) rfl us37 ui5 un9 rfl (.some (Rd.get (i := 0) rfl rfl)))) ?_
              rintro _ _ ⟨rfl, rfl⟩
              refine ⟨ro_s, ?_⟩
              refine TA.tk 16 970981375 rfl rfl rfl (Val.addL rfl rfl (by first | omega | (simp <;> omega))) ?_ (hro := ro_s)
              refine TA.tk 21 973078527 rfl rfl rfl (Val.addL rfl rfl (by first | omega | (simp <;> omega))) ?_ (hro := ro_s)
              refine TA.one 25 (by kernel_rfl) ?_
              refine TO.dz 1006632959 (some 32) rfl rfl rfl rfl (Does.callF go111 rfl (refPut_fn _ _)) ?_
              rintro _ _ ⟨rfl, rfl⟩
              refine ⟨ro_s, ?_⟩
              refine TA.tk 26 1073741823 rfl rfl rfl (Val.addL rfl rfl (by first | omega | (simp <;> omega))) ?_ (hro := ro_s)
              refine TA.one 30 (by kernel_rfl) ?_
              refine TO.dz 2147483647 (some 37) rfl rfl rfl rfl (Does.callF go111 rfl (refPut_fn _ _)) ?_
              rintro _ _ ⟨rfl, rfl⟩
              refine ⟨ro_s, ?_⟩
              refine TA.tk 31 4294967295 rfl rfl rfl (Val.addL rfl rfl (by first | omega | (simp <;> omega))) ?_ (hro := ro_s)
              refine TA.tk 32 8589934591 rfl rfl rfl (Val.assign rfl) ?_ (hro := ro_s)
              refine TA.tk 33 17179869183 rfl rfl rfl (Val.assign rfl) ?_ (hro := ro_s)
              refine TA.done (by kernel_rfl) ?_
              refine AtX.join () ?_ (Sub.cons rfl (Sub.cons rfl (Sub.nil _))) ro_s
              trivial
            · skip
              refine TO.dz 1004469247 (some 32) rfl rfl rfl rfl (Does.callF go111 rfl (refPut_fn _ _)) ?_
              rintro _ _ ⟨rfl, rfl⟩
              refine ⟨ro_s, ?_⟩
              refine TA.two 10 30 (by kernel_rfl) ?_ ?_
              · skip
                refine TO.dz 1004470271 (some 17) rfl rfl rfl rfl (Val.does (Val.b2s (l := [1, Go.X.b8 m.kind, Go.X.b8 m.who, Go.X.b8 m.metric]) rfl us37 ui5 un9 rfl (.some (Rd.get (i := 0) rfl rfl)))) ?_
                rintro _ _ ⟨rfl, rfl⟩
                refine ⟨ro_s, ?_⟩
                refine TA.tk 16 1004535807 rfl rfl rfl (Val.addL rfl rfl (by first | omega | (simp <;> omega))) ?_ (hro := ro_s)
                refine TA.tk 21 1006632959 rfl rfl rfl (Val.addL rfl rfl (by first | omega | (simp <;> omega))) ?_ (hro := ro_s)
                refine TA.tk 26 1073741823 rfl rfl rfl (Val.addL rfl rfl (by first | omega | (simp <;> omega))) ?_ (hro := ro_s)
                refine TA.one 30 (by kernel_rfl) ?_
                refine TO.dz 2147483647 (some 37) rfl rfl rfl rfl (Does.callF go111 rfl (refPut_fn _ _)) ?_
                rintro _ _ ⟨rfl, rfl⟩
                refine ⟨ro_s, ?_⟩
                refine TA.tk 31 4294967295 rfl rfl rfl (Val.addL rfl rfl (by first | omega | (simp <;> omega))) ?_ (hro := ro_s)
                refine TA.tk 32 8589934591 rfl rfl rfl (Val.assign rfl) ?_ (hro := ro_s)
                refine TA.tk 33 17179869183 rfl rfl rfl (Val.assign rfl) ?_ (hro := ro_s)
                refine TA.done (by kernel_rfl) ?_
                refine AtX.join () ?_ (Sub.cons rfl (Sub.cons rfl (Sub.nil _))) ro_s
                trivial
              · skip
                refine TO.dz 2078211071 (some 37) rfl rfl rfl rfl (Does.callF go111 rfl (refPut_fn _ _)) ?_
                rintro _ _ ⟨rfl, rfl⟩
                refine ⟨ro_s, ?_⟩
                refine TA.one 10 (by kernel_rfl) ?_
                refine TO.dz 2078212095 (some 17) rfl rfl rfl rfl (Val.does (Val.b2s (l := [1, Go.X.b8 m.kind, Go.X.b8 m.who, Go.X.b8 m.metric]) rfl us37 ui5 un9 rfl (.some (Rd.get (i := 0) rfl rfl)))) ?_
                rintro _ _ ⟨rfl, rfl⟩
                refine ⟨ro_s, ?_⟩
                refine TA.tk 16 2078277631 rfl rfl rfl (Val.addL rfl rfl (by first | omega | (simp <;> omega))) ?_ (hro := ro_s)
                refine TA.tk 21 2080374783 rfl rfl rfl (Val.addL rfl rfl (by first | omega | (simp <;> omega))) ?_ (hro := ro_s)
                refine TA.tk 26 2147483647 rfl rfl rfl (Val.addL rfl rfl (by first | omega | (simp <;> omega))) ?_ (hro := ro_s)
                refine TA.tk 31 4294967295 rfl rfl rfl (Val.addL rfl rfl (by first | omega | (simp <;> omega))) ?_ (hro := ro_s)
                refine TA.tk 32 8589934591 rfl rfl rfl (Val.assign rfl) ?_ (hro := ro_s)
                refine TA.tk 33 17179869183 rfl rfl rfl (Val.assign rfl) ?_ (hro := ro_s)
                refine TA.done (by kernel_rfl) ?_
                refine AtX.join () ?_ (Sub.cons rfl (Sub.cons rfl (Sub.nil _))) ro_s
                trivial
      · skip
        refine TO.dz 969832959 (some 21) rfl rfl rfl rfl (Does.callF go111 rfl (refPut_fn _ _)) ?_
        rintro _ _ ⟨rfl, rfl⟩
        refine ⟨ro_s, ?_⟩
        refine TA.tk 15 969865727 rfl rfl rfl (Val.sliceL (i := 0) (j := 4) rfl un9 rfl rfl rfl rfl (by omega) (by simp)) ?_ (hro := ro_s)
        refine TA.two 9 20 (by kernel_rfl) ?_ ?_
        · skip
          refine TO.dz 969866239 (some 16) rfl rfl rfl rfl (Does.buildSlice sl37 sz5 ze5 (by decide) (by decide) rfl rfl rfl) ?_
          rintro _ _ ⟨b19, rfl, rfl⟩
          refine ⟨ro_s, ?_⟩
          refine TA.two 10 20 (by kernel_rfl) ?_ ?_
          · skip
            refine TO.dz 969867263 (some 17) rfl rfl rfl rfl (Val.does (Val.b2s (l := [1, Go.X.b8 m.kind, Go.X.b8 m.who, Go.X.b8 m.metric]) rfl us37 ui5 un9 rfl (.some (Rd.get (i := 0) rfl rfl)))) ?_
            rintro _ _ ⟨rfl, rfl⟩
            refine ⟨ro_s, ?_⟩
            refine TA.tk 16 969932799 rfl rfl rfl (Val.addL rfl rfl (by first | omega | (simp <;> omega))) ?_ (hro := ro_s)
            refine TA.one 20 (by kernel_rfl) ?_
            refine TO.dz 970981375 (some 27) rfl rfl rfl rfl (Does.callF go111 rfl (refPut_fn _ _)) ?_
            rintro _ _ ⟨rfl, rfl⟩
            refine ⟨ro_s, ?_⟩
            refine TA.tk 21 973078527 rfl rfl rfl (Val.addL rfl rfl (by first | omega | (simp <;> omega))) ?_ (hro := ro_s)
            refine TA.one 25 (by kernel_rfl) ?_
            refine TO.dz 1006632959 (some 32) rfl rfl rfl rfl (Does.callF go111 rfl (refPut_fn _ _)) ?_
            rintro _ _ ⟨rfl, rfl⟩
            refine ⟨ro_s, ?_⟩
            refine TA.tk 26 1073741823 rfl rfl rfl (Val.addL rfl rfl (by first | omega | (simp <;> omega))) ?_ (hro := ro_s)
            refine TA.one 30 (by kernel_rfl) ?_
            refine TO.dz 2147483647 (some 37) rfl rfl rfl rfl (Does.callF go111 rfl (refPut_fn _ _)) ?_
            rintro _ _ ⟨rfl, rfl⟩
            refine ⟨ro_s, ?_⟩
            refine TA.tk 31 4294967295 rfl rfl rfl (Val.addL rfl rfl (by first | omega | (simp <;> omega))) ?_ (hro := ro_s)
            refine TA.tk 32 8589934591 rfl rfl rfl (Val.assign rfl) ?_ (hro := ro_s)
            refine TA.tk 33 17179869183 rfl rfl rfl (Val.assign rfl) ?_ (hro := ro_s)
            refine TA.done (by kernel_rfl) ?_
            refine AtX.join () ?_ (Sub.cons rfl (Sub.cons rfl (Sub.nil _))) ro_s
            trivial
          · skip
            refine TO.dz 970914815 (some 27) rfl rfl rfl rfl (Does.callF go111 rfl (refPut_fn _ _)) ?_
            rintro _ _ ⟨rfl, rfl⟩
            refine ⟨ro_s, ?_⟩
            refine TA.two 10 25 (by kernel_rfl) ?_ ?_
            · skip
              refine TO.dz 970915839 (some 17) rfl rfl rfl rfl (Val.does (Val.b2s (l := [1, Go.X.b8 m.kind, Go.X.b8 m.who, Go.X.b8 m.metric]) rfl us37 ui5 un9 rfl (.some (Rd.get (i := 0) rfl rfl)))) ?_
              rintro _ _ ⟨rfl, rfl⟩
              refine ⟨ro_s, ?_⟩
              refine TA.tk 16 970981375 rfl rfl rfl (Val.addL rfl rfl (by first | omega | (simp <;> omega))) ?_ (hro := ro_s)
              refine TA.tk 21 973078527 rfl rfl rfl (Val.addL rfl rfl (by first | omega | (simp <;> omega))) ?_ (hro := ro_s)
              refine TA.one 25 (by kernel_rfl) ?_
              refine TO.dz 1006632959 (some 32) rfl rfl rfl rfl (Does.callF go111 rfl (refPut_fn _ _)) ?_
              rintro _ _ ⟨rfl, rfl⟩
              refine ⟨ro_s, ?_⟩
              refine TA.tk 26 1073741823 rfl rfl rfl (Val.addL rfl rfl (by first | omega | (simp <;> omega))) ?_ (hro := ro_s)
              refine TA.one 30 (by kernel_rfl) ?_
              refine TO.dz 2147483647 (some 37) rfl rfl rfl rfl (Does.callF go111 rfl (refPut_fn _ _)) ?_
              rintro _ _ ⟨rfl, rfl⟩
              refine ⟨ro_s, ?_⟩
              refine TA.tk 31 4294967295 rfl rfl rfl (Val.addL rfl rfl (by first | omega | (simp <;> omega))) ?_ (hro := ro_s)
              refine TA.tk 32 8589934591 rfl rfl rfl (Val.assign rfl) ?_ (hro := ro_s)
              refine TA.tk 33 17179869183 rfl rfl rfl (Val.assign rfl) ?_ (hro := ro_s)
              refine TA.done (by kernel_rfl) ?_
              refine AtX.join () ?_ (Sub.cons rfl (Sub.cons rfl (Sub.nil _))) ro_s
              trivial
            · skip
              refine TO.dz 1004469247 (some 32) rfl rfl rfl rfl (Does.callF go111 rfl (refPut_fn _ _)) ?_
              rintro _ _ ⟨rfl, rfl⟩
              refine ⟨ro_s, ?_⟩
              refine TA.two 10 30 (by kernel_rfl) ?_ ?_
              · skip
                refine TO.dz 1004470271 (some 17) rfl rfl rfl rfl (Val.does (Val.b2s (l := [1, Go.X.b8 m.kind, Go.X.b8 m.who, Go.X.b8 m.metric]) rfl us37 ui5 un9 rfl (.some (Rd.get (i := 0) rfl rfl)))) ?_
                rintro _ _ ⟨rfl, rfl⟩
                refine ⟨ro_s, ?_⟩
                refine TA.tk 16 1004535807 rfl rfl rfl (Val.addL rfl rfl (by first | omega | (simp <;> omega))) ?_ (hro := ro_s)
                refine TA.tk 21 1006632959 rfl rfl rfl (Val.addL rfl rfl (by first | omega | (simp <;> omega))) ?_ (hro := ro_s)
                refine TA.tk 26 1073741823 rfl rfl rfl (Val.addL rfl rfl (by first | omega | (simp <;> omega))) ?_ (hro := ro_s)
                refine TA.one 30 (by kernel_rfl) ?_
                refine TO.dz 2147483647 (some 37) rfl rfl rfl rfl (Does.callF go111 rfl (refPut_fn _ _)) ?_
                rintro _ _ ⟨rfl, rfl⟩
                refine ⟨ro_s, ?_⟩
                refine TA.tk 31 4294967295 rfl rfl rfl (Val.addL rfl rfl (by first | omega | (simp <;> omega))) ?_ (hro := ro_s)
                refine TA.tk 32 8589934591 rfl rfl rfl (Val.assign rfl) ?_ (hro := ro_s)
                refine TA.tk 33 17179869183 rfl rfl rfl (Val.assign rfl) ?_ (hro := ro_s)
                refine TA.done (by kernel_rfl) ?_
                refine AtX.join () ?_ (Sub.cons rfl (Sub.cons rfl (Sub.nil _))) ro_s
                trivial
              · skip
                refine TO.dz 2078211071 (some 37) rfl rfl rfl rfl (Does.callF go111 rfl (refPut_fn _ _)) ?_
                rintro _ _ ⟨rfl, rfl⟩
                refine ⟨ro_s, ?_⟩
                refine TA.one 10 (by kernel_rfl) ?_
                refine TO.dz 2078212095 (some 17) rfl rfl rfl rfl (Val.does (Val.b2s (l := [1, Go.X.b8 m.kind, Go.X.b8 m.who, Go.X.b8 m.metric]) rfl us37 ui5 un9 rfl (.some (Rd.get (i := 0) rfl rfl)))) ?_
                rintro _ _ ⟨rfl, rfl⟩
                refine ⟨ro_s, ?_⟩
                refine TA.tk 16 2078277631 rfl rfl rfl (Val.addL rfl rfl (by first | omega | (simp <;> omega))) ?_ (hro := ro_s)
                refine TA.tk 21 2080374783 rfl rfl rfl (Val.addL rfl rfl (by first | omega | (simp <;> omega))) ?_ (hro := ro_s)
                refine TA.tk 26 2147483647 rfl rfl rfl (Val.addL rfl rfl (by first | omega | (simp <;> omega))) ?_ (hro := ro_s)
                refine TA.tk 31 4294967295 rfl rfl rfl (Val.addL rfl rfl (by first | omega | (simp <;> omega))) ?_ (hro := ro_s)
                refine TA.tk 32 8589934591 rfl rfl rfl (Val.assign rfl) ?_ (hro := ro_s)
                refine TA.tk 33 17179869183 rfl rfl rfl (Val.assign rfl) ?_ (hro := ro_s)
                refine TA.done (by kernel_rfl) ?_
                refine AtX.join () ?_ (Sub.cons rfl (Sub.cons rfl (Sub.nil _))) ro_s
                trivial
        · skip
          refine TO.dz 970914303 (some 27) rfl rfl rfl rfl (Does.callF go111 rfl (refPut_fn _ _)) ?_
          rintro _ _ ⟨rfl, rfl⟩
          refine ⟨ro_s, ?_⟩
          refine TA.two 9 25 (by kernel_rfl) ?_ ?_
          · skip
            refine TO.dz 970914815 (some 16) rfl rfl rfl rfl (Does.buildSlice sl37 sz5 ze5 (by decide) (by decide) rfl rfl rfl) ?_
            rintro _ _ ⟨b30, rfl, rfl⟩
            refine ⟨ro_s, ?_⟩
            refine TA.two 10 25 (by kernel_rfl) ?_ ?_
            · skip
              refine TO.dz 970915839 (some 17) rfl rfl rfl rfl (Val.does (Val.b2s (l := [1, Go.X.b8 m.kind, Go.X.b8 m.who, Go.X.b8 m.metric]) rfl us37 ui5 un9 rfl (.some (Rd.get (i := 0) rfl rfl)))) ?_
              rintro _ _ ⟨rfl, rfl⟩
              refine ⟨ro_s, ?_⟩
              refine TA.tk 16 970981375 rfl rfl rfl (Val.addL rfl rfl (by first | omega | (simp <;> omega))) ?_ (hro := ro_s)
              refine TA.tk 21 973078527 rfl rfl rfl (Val.addL rfl rfl (by first | omega | (simp <;> omega))) ?_ (hro := ro_s)
              refine TA.one 25 (by kernel_rfl) ?_
              refine TO.dz 1006632959 (some 32) rfl rfl rfl rfl (Does.callF go111 rfl (refPut_fn _ _)) ?_
              rintro _ _ ⟨rfl, rfl⟩
              refine ⟨ro_s, ?_⟩
              refine TA.tk 26 1073741823 rfl rfl rfl (Val.addL rfl rfl (by first | omega | (simp <;> omega))) ?_ (hro := ro_s)
              refine TA.one 30 (by kernel_rfl) ?_
              refine TO.dz 2147483647 (some 37) rfl rfl rfl rfl (Does.callF go111 rfl (refPut_fn _ _)) ?_
              rintro _ _ ⟨rfl, rfl⟩
              refine ⟨ro_s, ?_⟩
              refine TA.tk 31 4294967295 rfl rfl rfl (Val.addL rfl rfl (by first | omega | (simp <;> omega))) ?_ (hro := ro_s)
              refine TA.tk 32 8589934591 rfl rfl rfl (Val.assign rfl) ?_ (hro := ro_s)
              refine TA.tk 33 17179869183 rfl rfl rfl (Val.assign rfl) ?_ (hro := ro_s)
              refine TA.done (by kernel_rfl) ?_
              refine AtX.join () ?_ (Sub.cons rfl (Sub.cons rfl (Sub.nil _))) ro_s
              trivial
            · skip
              refine TO.dz 1004469247 (some 32) rfl rfl rfl rfl (Does.callF go111 rfl (refPut_fn _ _)) ?_
              rintro _ _ ⟨rfl, rfl⟩
              refine ⟨ro_s, ?_⟩
              refine TA.two 10 30 (by kernel_rfl) ?_ ?_
              · skip
                refine TO.dz 1004470271 (some 17) rfl rfl rfl rfl (Val.does (Val.b2s (l := [1, Go.X.b8 m.kind, Go.X.b8 m.who, Go.X.b8 m.metric]) rfl us37 ui5 un9 rfl (.some (Rd.get (i := 0) rfl rfl)))) ?_
                rintro _ _ ⟨rfl, rfl⟩
                refine ⟨ro_s, ?_⟩
                refine TA.tk 16 1004535807 rfl rfl rfl (Val.addL rfl rfl (by first | omega | (simp <;> omega))) ?_ (hro := ro_s)
                refine TA.tk 21 1006632959 rfl rfl rfl (Val.addL rfl rfl (by first | omega | (simp <;> omega))) ?_ (hro := ro_s)
                refine TA.tk 26 1073741823 rfl rfl rfl (Val.addL rfl rfl (by first | omega | (simp <;> omega))) ?_ (hro := ro_s)
                refine TA.one 30 (by kernel_rfl) ?_
                refine TO.dz 2147483647 (some 37) rfl rfl rfl rfl (Does.callF go111 rfl (refPut_fn _ _)) ?_
                rintro _ _ ⟨rfl, rfl⟩
                refine ⟨ro_s, ?_⟩
                refine TA.tk 31 4294967295 rfl rfl rfl (Val.addL rfl rfl (by first | omega | (simp <;> omega))) ?_ (hro := ro_s)
                refine TA.tk 32 8589934591 rfl rfl rfl (Val.assign rfl) ?_ (hro := ro_s)
                refine TA.tk 33 17179869183 rfl rfl rfl (Val.assign rfl) ?_ (hro := ro_s)
                refine TA.done (by kernel_rfl) ?_
                refine AtX.join () ?_ (Sub.cons rfl (Sub.cons rfl (Sub.nil _))) ro_s
                trivial
              · skip
                refine TO.dz 2078211071 (some 37) rfl rfl rfl rfl (Does.callF go111 rfl (refPut_fn _ _)) ?_
                rintro _ _ ⟨rfl, rfl⟩
                refine ⟨ro_s, ?_⟩
                refine TA.one 10 (by kernel_rfl) ?_
                refine TO.dz 2078212095 (some 17) rfl rfl rfl rfl (Val.does (Val.b2s (l := [1, Go.X.b8 m.kind, Go.X.b8 m.who, Go.X.b8 m.metric]) rfl us37 ui5 un9 rfl (.some (Rd.get (i := 0) rfl rfl)))) ?_
                rintro _ _ ⟨rfl, rfl⟩
                refine ⟨ro_s, ?_⟩
                refine TA.tk 16 2078277631 rfl rfl rfl (Val.addL rfl rfl (by first | omega | (simp <;> omega))) ?_ (hro := ro_s)
                refine TA.tk 21 2080374783 rfl rfl rfl (Val.addL rfl rfl (by first | omega | (simp <;> omega))) ?_ (hro := ro_s)
                refine TA.tk 26 2147483647 rfl rfl rfl (Val.addL rfl rfl (by first | omega | (simp <;> omega))) ?_ (hro := ro_s)
                refine TA.tk 31 4294967295 rfl rfl rfl (Val.addL rfl rfl (by first | omega | (simp <;> omega))) ?_ (hro := ro_s)
                refine TA.tk 32 8589934591 rfl rfl rfl (Val.assign rfl) ?_ (hro := ro_s)
                refine TA.tk 33 17179869183 rfl rfl rfl (Val.assign rfl) ?_ (hro := ro_s)
                refine TA.done (by kernel_rfl) ?_
                refine AtX.join () ?_ (Sub.cons rfl (Sub.cons rfl (Sub.nil _))) ro_s
                trivial
          · skip
            refine TO.dz 1004468735 (some 32) rfl rfl rfl rfl (Does.callF go111 rfl (refPut_fn _ _)) ?_
            rintro _ _ ⟨rfl, rfl⟩
            refine ⟨ro_s, ?_⟩
            refine TA.two 9 30 (by kernel_rfl) ?_ ?_
            · skip
              refine TO.dz 1004469247 (some 16) rfl rfl rfl rfl (Does.buildSlice sl37 sz5 ze5 (by decide) (by decide) rfl rfl rfl) ?_
              rintro _ _ ⟨b37, rfl, rfl⟩
              refine ⟨ro_s, ?_⟩
              refine TA.two 10 30 (by kernel_rfl) ?_ ?_
              · skip
                refine TO.dz 1004470271 (some 17) rfl rfl rfl rfl (Val.does (Val.b2s (l := [1, Go.X.b8 m.kind, Go.X.b8 m.who, Go.X.b8 m.metric]) rfl us37 ui5 un9 rfl (.some (Rd.get (i := 0) rfl rfl)))) ?_
                rintro _ _ ⟨rfl, rfl⟩
                refine ⟨ro_s, ?_⟩
                refine TA.tk 16 1004535807 rfl rfl rfl (Val.addL rfl rfl (by first | omega | (simp <;> omega))) ?_ (hro := ro_s)
                refine TA.tk 21 1006632959 rfl rfl rfl (Val.addL rfl rfl (by first | omega | (simp <;> omega))) ?_ (hro := ro_s)
                refine TA.tk 26 1073741823 rfl rfl rfl (Val.addL rfl rfl (by first | omega | (simp <;> omega))) ?_ (hro := ro_s)
                refine TA.one 30 (by kernel_rfl) ?_
                refine TO.dz 2147483647 (some 37) rfl rfl rfl rfl (Does.callF go111 rfl (refPut_fn _ _)) ?_
                rintro _ _ ⟨rfl, rfl⟩
                refine ⟨ro_s, ?_⟩
                refine TA.tk 31 4294967295 rfl rfl rfl (Val.addL rfl rfl (by first | omega | (simp <;> omega))) ?_ (hro := ro_s)
                refine TA.tk 32 8589934591 rfl rfl rfl (Val.assign rfl) ?_ (hro := ro_s)
                refine TA.tk 33 17179869183 rfl rfl rfl (Val.assign rfl) ?_ (hro := ro_s)
                refine TA.done (by kernel_rfl) ?_
                refine AtX.join () ?_ (Sub.cons rfl (Sub.cons rfl (Sub.nil _))) ro_s
                trivial
              · skip
                refine TO.dz 2078211071 (some 37) rfl rfl rfl rfl (Does.callF go111 rfl (refPut_fn _ _)) ?_
                rintro _ _ ⟨rfl, rfl⟩
                refine ⟨ro_s, ?_⟩
                refine TA.one 10 (by kernel_rfl) ?_
                refine TO.dz 2078212095 (some 17) rfl rfl rfl rfl (Val.does (Val.b2s (l := [1, Go.X.b8 m.kind, Go.X.b8 m.who, Go.X.b8 m.metric]) rfl us37 ui5 un9 rfl (.some (Rd.get (i := 0) rfl rfl)))) ?_
                rintro _ _ ⟨rfl, rfl⟩
                refine ⟨ro_s, ?_⟩
                refine TA.tk 16 2078277631 rfl rfl rfl (Val.addL rfl rfl (by first | omega | (simp <;> omega))) ?_ (hro := ro_s)
                refine TA.tk 21 2080374783 rfl rfl rfl (Val.addL rfl rfl (by first | omega | (simp <;> omega))) ?_ (hro := ro_s)
                refine TA.tk 26 2147483647 rfl rfl rfl (Val.addL rfl rfl (by first | omega | (simp <;> omega))) ?_ (hro := ro_s)
                refine TA.tk 31 4294967295 rfl rfl rfl (Val.addL rfl rfl (by first | omega | (simp <;> omega))) ?_ (hro := ro_s)
                refine TA.tk 32 8589934591 rfl rfl rfl (Val.assign rfl) ?_ (hro := ro_s)
                refine TA.tk 33 17179869183 rfl rfl rfl (Val.assign rfl) ?_ (hro := ro_s)
                refine TA.done (by kernel_rfl) ?_
                refine AtX.join () ?_ (Sub.cons rfl (Sub.cons rfl (Sub.nil _))) ro_s
                trivial
            · skip
              refine TO.dz 2078210559 (some 37) rfl rfl rfl rfl (Does.callF go111 rfl (refPut_fn _ _)) ?_
              rintro _ _ ⟨rfl, rfl⟩
              refine ⟨ro_s, ?_⟩
              refine TA.one 9 (by kernel_rfl) ?_
              refine TO.dz 2078211071 (some 16) rfl rfl rfl rfl (Does.buildSlice sl37 sz5 ze5 (by decide) (by decide) rfl rfl rfl) ?_
              rintro _ _ ⟨b41, rfl, rfl⟩
              refine ⟨ro_s, ?_⟩
              refine TA.one 10 (by kernel_rfl) ?_
              refine TO.dz 2078212095 (some 17) rfl rfl rfl rfl (Val.does (Val.b2s (l := [1, Go.X.b8 m.kind, Go.X.b8 m.who, Go.X.b8 m.metric]) rfl us37 ui5 un9 rfl (.some (Rd.get (i := 0) rfl rfl)))) ?_
              rintro _ _ ⟨rfl, rfl⟩
              refine ⟨ro_s, ?_⟩
              refine TA.tk 16 2078277631 rfl rfl rfl (Val.addL rfl rfl (by first | omega | (simp <;> omega))) ?_ (hro := ro_s)
              refine TA.tk 21 2080374783 rfl rfl rfl (Val.addL rfl rfl (by first | omega | (simp <;> omega))) ?_ (hro := ro_s)
              refine TA.tk 26 2147483647 rfl rfl rfl (Val.addL rfl rfl (by first | omega | (simp <;> omega))) ?_ (hro := ro_s)
              refine TA.tk 31 4294967295 rfl rfl rfl (Val.addL rfl rfl (by first | omega | (simp <;> omega))) ?_ (hro := ro_s)
              refine TA.tk 32 8589934591 rfl rfl rfl (Val.assign rfl) ?_ (hro := ro_s)
              refine TA.tk 33 17179869183 rfl rfl rfl (Val.assign rfl) ?_ (hro := ro_s)
              refine TA.done (by kernel_rfl) ?_
              refine AtX.join () ?_ (Sub.cons rfl (Sub.cons rfl (Sub.nil _))) ro_s
              trivial
    · intro _ _
      refine TC.r2 (M' := M) (fn := Try.f91) (fun _ _ h => h) rfl (RV.tmp rfl) (RV.tmp rfl) ?_
      exact ⟨rfl, rfl⟩

/-- quorumite/quorumiteref1.PutMsg -/
theorem refPutM_no (m : Ms) (M : Hp) (hm : mayM m = false) : FnC Try.prog 91 #[.agg #[.int .i64 m.kind, .int .i64 m.who, .int .i64 m.gen, .int .i64 m.seq, .int .i64 m.epoch, .int .i64 m.value, .int .i64 m.metric]] M (fun v M' => v = .tuple #[.string (ofL []), .int .i64 1] ∧ M = M') := by
  refine FnC.intro Try.func91 rfl 39 rfl (by simp) (fun z => ?_)
  refine TC.env (E' := [(0, _)]) (Sub.cons rfl (Sub.nil _)) ?_
  refine TC.sr ?_
  refine TL.d (Does.box rfl rfl) ?_
  rintro _ _ ⟨b1, rfl, rfl⟩
  refine TL.v (Val.assign rfl) ?_
  refine TL.v (Val.assign rfl) ?_
  refine TL.nt ?_
  refine TC.seq ?_
  refine TC.sr ?_
  refine TL.v (Val.loadAgg 0 rfl ag61 sz61 rfl rfl rfl) ?_
  refine TL.d (Does.callF go55 rfl (refMay_fn m _)) ?_
  rintro _ _ ⟨g1, rfl, hg1_, rfl⟩
  refine TL.v (Val.not rfl) ?_
  refine TL.nt ?_
  refine TC.condB rfl (fun c1 => ?_) (fun c1 => ?_)
  · skip
    refine TC.sr ?_
    refine TL.v (Val.assign rfl) ?_
    refine TL.v (Val.assign rfl) ?_
    refine TL.nt ?_
    refine TC.r2 (M' := M) (fn := Try.f91) (fun _ _ h => h) rfl (RV.tmp rfl) (RV.tmp rfl) ?_
    exact ⟨rfl, rfl⟩
  · skip
    (rw [hg1_, hm] at c1; cases c1)

/-- quorumite/quorumiteref1.Seal -/
theorem refSeal_yes (k : K2) (m : Ms) (M : Hp) (hm : mayM m = true) : FnC Try.prog 58 #[.agg #[.int .u64 k.a, .int .u64 k.b], .agg #[.int .i64 m.kind, .int .i64 m.who, .int .i64 m.gen, .int .i64 m.seq, .int .i64 m.epoch, .int .i64 m.value, .int .i64 m.metric]] M (fun v M' => v = .tuple #[.string (ofL (sealB k m)), .int .i64 0] ∧ M = M') := by
  refine FnC.intro Try.func58 rfl 22 rfl (by simp) (fun z => ?_)
  refine TC.env (E' := [(0, _), (1, _)]) (Sub.cons rfl (Sub.cons rfl (Sub.nil _))) ?_
  refine TC.sr ?_
  refine TL.d (Does.box rfl rfl) ?_
  rintro _ _ ⟨b1, rfl, rfl⟩
  refine TL.d (Does.box rfl rfl) ?_
  rintro _ _ ⟨b2, rfl, rfl⟩
  refine TL.v (Val.assign rfl) ?_
  refine TL.v (Val.assign rfl) ?_
  refine TL.nt ?_
  refine TC.sr ?_
  refine TL.v (Val.loadAgg 0 rfl ag61 sz61 rfl rfl rfl) ?_
  refine TL.d (Does.callF go91 rfl (refPutM_yes m _ hm)) ?_
  rintro _ _ ⟨rfl, rfl⟩
  refine TL.v (Val.move rfl) ?_
  refine TL.v (Val.extract rfl rfl) ?_
  refine TL.v (Val.extract rfl rfl) ?_
  refine TL.v (Val.assign rfl) ?_
  refine TL.v (Val.assign rfl) ?_
  refine TL.nt ?_
  refine TC.en (E' := [(2, _), (4, _), (5, _), (6, _), (7, _)]) ?_
  refine TC.seq ?_
  refine TC.sr ?_
  refine TL.v (Val.move rfl) ?_
  refine TL.v (Val.neqI rfl rfl) ?_
  refine TL.nt ?_
  refine TC.condP rfl (fun c1 => ?_) (fun c1 => ?_)
  · skip
    exact absurd rfl c1
  · skip
    refine TC.skip ?_
    refine AtX.then ?_
    refine TC.sr ?_
    refine TL.v (Val.move rfl) ?_
    refine TL.v (Val.loadAgg 1 rfl ag69 sz69 rfl rfl rfl) ?_
    refine TL.v (Val.move rfl) ?_
    refine TL.d (Does.callF go93 rfl (refTag_fn k (putM m) _ (by simp))) ?_
    rintro _ _ ⟨rfl, rfl⟩
    refine TL.d (Does.callF go92 rfl (refTagB_fn (tagOf k (putM m)) _)) ?_
    rintro _ _ ⟨rfl, rfl⟩
    refine TL.v (Val.addL rfl rfl (by first | omega | (simp <;> omega))) ?_
    refine TL.v (Val.assign rfl) ?_
    refine TL.v (Val.assign rfl) ?_
    refine TL.nt ?_
    refine TC.en (E' := [(4, _), (5, _)]) ?_
    refine TC.r2 (M' := M) (fn := Try.f58) (fun _ _ h => h) rfl (RV.tmp rfl) (RV.tmp rfl) ?_
    exact ⟨rfl, rfl⟩

/-- quorumite/quorumiteref1.Seal -/
theorem refSeal_no (k : K2) (m : Ms) (M : Hp) (hm : mayM m = false) : FnC Try.prog 58 #[.agg #[.int .u64 k.a, .int .u64 k.b], .agg #[.int .i64 m.kind, .int .i64 m.who, .int .i64 m.gen, .int .i64 m.seq, .int .i64 m.epoch, .int .i64 m.value, .int .i64 m.metric]] M (fun v M' => v = .tuple #[.string (ofL []), .int .i64 1] ∧ M = M') := by
  refine FnC.intro Try.func58 rfl 22 rfl (by simp) (fun z => ?_)
  refine TC.env (E' := [(0, _), (1, _)]) (Sub.cons rfl (Sub.cons rfl (Sub.nil _))) ?_
  refine TC.sr ?_
  refine TL.d (Does.box rfl rfl) ?_
  rintro _ _ ⟨b1, rfl, rfl⟩
  refine TL.d (Does.box rfl rfl) ?_
  rintro _ _ ⟨b2, rfl, rfl⟩
  refine TL.v (Val.assign rfl) ?_
  refine TL.v (Val.assign rfl) ?_
  refine TL.nt ?_
  refine TC.sr ?_
  refine TL.v (Val.loadAgg 0 rfl ag61 sz61 rfl rfl rfl) ?_
  refine TL.d (Does.callF go91 rfl (refPutM_no m _ hm)) ?_
  rintro _ _ ⟨rfl, rfl⟩
  refine TL.v (Val.move rfl) ?_
  refine TL.v (Val.extract rfl rfl) ?_
  refine TL.v (Val.extract rfl rfl) ?_
  refine TL.v (Val.assign rfl) ?_
  refine TL.v (Val.assign rfl) ?_
  refine TL.nt ?_
  refine TC.en (E' := [(2, _), (4, _), (5, _), (6, _), (7, _)]) ?_
  refine TC.seq ?_
  refine TC.sr ?_
  refine TL.v (Val.move rfl) ?_
  refine TL.v (Val.neqI rfl rfl) ?_
  refine TL.nt ?_
  refine TC.condP rfl (fun c1 => ?_) (fun c1 => ?_)
  · skip
    refine TC.sr ?_
    refine TL.v (Val.move rfl) ?_
    refine TL.v (Val.assign rfl) ?_
    refine TL.v (Val.assign rfl) ?_
    refine TL.nt ?_
    refine TC.r2 (M' := M) (fn := Try.f58) (fun _ _ h => h) rfl (RV.tmp rfl) (RV.tmp rfl) ?_
    exact ⟨rfl, rfl⟩
  · skip
    exact absurd c1 (by decide)

end Go.Proofs.Ytphoapajlcaoeaa
/- walks -/
set_option linter.unusedVariables false
set_option linter.unusedSimpArgs false
set_option maxRecDepth 100000
set_option maxHeartbeats 4000000
namespace Go.Proofs.Ytphoapajlcaoeaa
open Go Go.X
abbrev rsO (b : Nat) (s w g q : Int) : Nat × Obj := (b, .cells #[.int .u64 s, .int .i64 w, .int .i64 g, .int .i64 q] 109 (0, 0))
/-- quorumite/quorumiteref5.NewSealer -/
theorem refNS_fn (s : Int) (k : Int) (M : Hp) (hk : 0 ≤ k ∧ k ≤ 15) : FnC Try.prog 54 #[.int .u64 s, .int .i64 k] M (fun v M' => ∃ b, v = .pointer (some ⟨b, 0, none⟩) ∧ M' = rsO b s k 0 0 :: M) := by
  refine FnC.intro Try.func54 rfl 15 rfl (by simp) (fun z => ?_)
  refine TC.env (E' := [(0, _), (1, _)]) (Sub.cons rfl (Sub.cons rfl (Sub.nil _))) ?_
  refine TC.sr ?_
  refine TL.v (Val.assign rfl) ?_
  refine TL.nt ?_
  refine TC.seq ?_
  refine TC.sr ?_
  refine TL.v (Val.move rfl) ?_
  refine TL.v (Val.lss rfl rfl) ?_
  refine TL.v (Val.move rfl) ?_
  refine TL.gen (fun g1 hg1 => ?_)
  refine TL.gv rfl rfl rfl (fun hg => by subst hg; exact (Val.move rfl)) ?_
  refine TL.gv rfl rfl rfl (fun hg => by subst hg; exact (Val.gtr rfl rfl)) ?_
  refine TL.v (Val.pickOr rfl rfl rfl) ?_
  refine TL.nt ?_
  refine TC.cond rfl (fun c1 => ?_) (fun c1 => ?_)
  · skip
    (exfalso; grind)
  · skip
    refine TC.skip ?_
    refine AtX.then ?_
    refine TC.sr ?_
    refine TL.v (Val.move rfl) ?_
    refine TL.v (Val.move rfl) ?_
    refine TL.v (Val.buildS pl109 ze109 rfl rfl) ?_
    refine TL.d (Does.box rfl rfl) ?_
    rintro _ _ ⟨b2, rfl, rfl⟩
    refine TL.v (Val.assign rfl) ?_
    refine TL.nt ?_
    refine TC.en (E' := [(4, _)]) ?_
    refine TC.r1 (hM := (fun _ h => h)) (fn := Try.f54) (fun _ _ h => h) rfl (RV.tmp rfl) ?_
    exact ⟨_, rfl, rfl⟩

/-- (*quorumite/quorumiteref5.Sealer).next -/
theorem refnext_yes (b i : Nat) (s w g q : Int) (M : Hp) (hi : M[i]? = some (rsO b s w g q)) (hq : 0 ≤ q ∧ q ≤ 1099511627776) (m : Ms) (hm : mayM ⟨m.kind, w, m.gen, q + 1, m.epoch, m.value, m.metric⟩ = true) : FnC Try.prog 90 #[.pointer (some ⟨b, 0, none⟩), .agg #[.int .i64 m.kind, .int .i64 m.who, .int .i64 m.gen, .int .i64 m.seq, .int .i64 m.epoch, .int .i64 m.value, .int .i64 m.metric]] M (fun v M' => v = .tuple #[.string (ofL (sealB (macKey s w g) ⟨m.kind, w, m.gen, q + 1, m.epoch, m.value, m.metric⟩)), .int .i64 0] ∧ M' = M.set i (rsO b s w g (q + 1))) := by
  refine FnC.intro Try.func90 rfl 48 rfl (by simp) (fun z => ?_)
  refine TC.env (E' := [(0, _), (1, _)]) (Sub.cons rfl (Sub.cons rfl (Sub.nil _))) ?_
  refine TC.sr ?_
  refine TL.d (Does.box rfl rfl) ?_
  rintro _ _ ⟨b1, rfl, rfl⟩
  refine TL.v (Val.assign rfl) ?_
  refine TL.v (Val.assign rfl) ?_
  refine TL.nt ?_
  refine TC.seq ?_
  refine TC.drawL M mixed 13 ?_
  refine TA.tk 0 1 rfl rfl rfl (Val.move rfl) ?_ (hro := ro_s)
  refine TA.tk 1 3 rfl rfl rfl (Val.nilCheck rfl) ?_ (hro := ro_s)
  refine TA.tk 2 7 rfl rfl rfl (Val.fieldAddr rfl fl109_1 sz3 rfl) ?_ (hro := ro_s)
  refine TA.tk 3 15 rfl rfl rfl (Val.load i rfl ag3 hi rfl) ?_ (hro := ro_s)
  refine TA.tk 4 31 rfl rfl rfl (Val.move rfl) ?_ (hro := ro_s)
  refine TA.tk 5 63 rfl rfl rfl (Val.nilCheck rfl) ?_ (hro := ro_s)
  refine TA.tk 6 127 rfl rfl rfl (Val.fieldAddr rfl fl109_3 sz2 rfl) ?_ (hro := ro_s)
  refine TA.tk 7 255 rfl rfl rfl (Val.load i rfl ag2 hi rfl) ?_ (hro := ro_s)
  refine TA.tk 8 511 rfl rfl rfl (Val.add rfl rfl (r := q + 1) (w_i64 (by omega) (by omega))) ?_ (hro := ro_s)
  refine TA.tk 9 1023 rfl rfl rfl (Val.fieldAddr rfl fl61_1 sz3 rfl) ?_ (hro := ro_s)
  refine TA.one 10 (by kernel_rfl) ?_
  refine TO.dz 2047 none rfl rfl rfl rfl (Does.store (i := 0) rfl rfl rfl sz3 rfl rfl (by first | exact Nat.le_of_ble_eq_true rfl | decide | omega) rfl rfl) ?_
  rintro _ _ ⟨rfl, rfl⟩
  refine ⟨ro_s, ?_⟩
  refine TA.tk 11 4095 rfl rfl rfl (Val.fieldAddr rfl fl61_3 sz2 rfl) ?_ (hro := ro_s)
  refine TA.one 12 (by kernel_rfl) ?_
  refine TO.dz 8191 none rfl rfl rfl rfl (Does.store (i := 0) rfl rfl rfl sz2 rfl rfl (by first | exact Nat.le_of_ble_eq_true rfl | decide | omega) rfl rfl) ?_
  rintro _ _ ⟨rfl, rfl⟩
  refine ⟨ro_s, ?_⟩
  refine TA.done (by kernel_rfl) ?_
  refine AtX.then ?_
  refine TC.en (E' := [(0, _), (3, _), (4, _), (5, _)]) ?_
  refine TC.seq ?_
  refine TC.heap (M' := (b1, .cells #[.int .i64 m.kind, .int .i64 w, .int .i64 m.gen, .int .i64 (q + 1), .int .i64 m.epoch, .int .i64 m.value, .int .i64 m.metric] 61 (0, 0)) :: M) (fun w h => h) ?_
  refine TC.drawLM mixed 20 ?_
  refine TA.tk 0 1 rfl rfl rfl (Val.move rfl) ?_
  refine TA.tk 1 3 rfl rfl rfl (Val.nilCheck rfl) ?_
  refine TA.tk 2 7 rfl rfl rfl (Val.fieldAddr rfl fl109_0 sz24 rfl) ?_
  refine TA.tk 3 15 rfl rfl rfl (Val.load (i + 1) rfl ag24 hi rfl) ?_
  refine TA.tk 4 31 rfl rfl rfl (Val.move rfl) ?_
  refine TA.tk 5 63 rfl rfl rfl (Val.nilCheck rfl) ?_
  refine TA.tk 6 127 rfl rfl rfl (Val.fieldAddr rfl fl109_1 sz3 rfl) ?_
  refine TA.tk 7 255 rfl rfl rfl (Val.load (i + 1) rfl ag3 hi rfl) ?_
  refine TA.tk 8 511 rfl rfl rfl (Val.move rfl) ?_
  refine TA.tk 9 1023 rfl rfl rfl (Val.nilCheck rfl) ?_
  refine TA.tk 10 2047 rfl rfl rfl (Val.fieldAddr rfl fl109_2 sz3 rfl) ?_
  refine TA.tk 11 4095 rfl rfl rfl (Val.load (i + 1) rfl ag3 hi rfl) ?_
  refine TA.tk 13 12287 rfl rfl rfl (Val.loadAgg 0 rfl ag61 sz61 rfl rfl rfl) ?_
  refine TA.one 12 (by kernel_rfl) ?_
  refine TO.dz 16383 (some 32) rfl rfl rfl rfl (Does.callF go59 rfl (refOf_fn s w g _)) ?_
  rintro _ _ ⟨rfl, rfl⟩
  refine roK ?_
  refine TA.one 14 (by kernel_rfl) ?_
  refine TO.dz 32767 (some 34) rfl rfl rfl rfl (Does.callF go58 rfl (refSeal_yes (macKey s w g) ⟨m.kind, w, m.gen, q + 1, m.epoch, m.value, m.metric⟩ _ hm)) ?_
  rintro _ _ ⟨rfl, rfl⟩
  refine roK ?_
  refine TA.tk 15 65535 rfl rfl rfl (Val.move rfl) ?_
  refine TA.tk 16 131071 rfl rfl rfl (Val.extract rfl rfl) ?_
  refine TA.tk 17 262143 rfl rfl rfl (Val.extract rfl rfl) ?_
  refine TA.tk 18 524287 rfl rfl rfl (Val.assign rfl) ?_
  refine TA.tk 19 1048575 rfl rfl rfl (Val.assign rfl) ?_
  refine TA.done (by kernel_rfl) ?_
  refine AtX.then ?_
  refine TC.en (E' := [(0, _), (4, _), (5, _), (6, _), (7, _)]) ?_
  refine TC.seq ?_
  refine TC.sr ?_
  refine TL.v (Val.move rfl) ?_
  refine TL.v (Val.eqlI rfl rfl) ?_
  refine TL.nt ?_
  refine TC.condP rfl (fun c1 => ?_) (fun c1 => ?_)
  · skip
    refine TC.region ?_
    refine TL.v (Val.move rfl) ?_
    refine TL.v (Val.nilCheck rfl) ?_
    refine TL.v (Val.fieldAddr rfl fl109_3 sz2 rfl) ?_
    refine TL.v (Val.load (i + 1) rfl ag2 hi rfl) ?_
    refine TL.v (Val.add rfl rfl (r := q + 1) (w_i64 (by omega) (by omega))) ?_
    refine TL.v (Val.nilCheck rfl) ?_
    refine TL.v (Val.fieldAddr rfl fl109_3 sz2 rfl) ?_
    refine TL.d (Does.store (i := i + 1) rfl rfl hi sz2 rfl rfl (by exact Nat.le_of_ble_eq_true rfl) rfl rfl) ?_
    rintro _ _ ⟨rfl, rfl⟩
    refine TL.nt ?_
    refine TC.en (E' := [(4, _), (5, _), (6, _), (7, _)]) ?_
    refine TC.sr ?_
    refine TL.v (Val.move rfl) ?_
    refine TL.v (Val.move rfl) ?_
    refine TL.v (Val.assign rfl) ?_
    refine TL.v (Val.assign rfl) ?_
    refine TL.nt ?_
    refine TC.r2 (hM := (fun w' h => Own.drop (b := b1) h)) (M' := M.set i (rsO b s w g (q + 1))) (fn := Try.f90) (fun _ _ h => h) rfl (RV.tmp rfl) (RV.tmp rfl) ?_
    exact ⟨rfl, rfl⟩
  · skip
    exact absurd rfl c1

/-- (*quorumite/quorumiteref5.Sealer).next -/
theorem refnext_no (b i : Nat) (s w g q : Int) (M : Hp) (hi : M[i]? = some (rsO b s w g q)) (hq : 0 ≤ q ∧ q ≤ 1099511627776) (m : Ms) (hm : mayM ⟨m.kind, w, m.gen, q + 1, m.epoch, m.value, m.metric⟩ = false) : FnC Try.prog 90 #[.pointer (some ⟨b, 0, none⟩), .agg #[.int .i64 m.kind, .int .i64 m.who, .int .i64 m.gen, .int .i64 m.seq, .int .i64 m.epoch, .int .i64 m.value, .int .i64 m.metric]] M (fun v M' => v = .tuple #[.string (ofL []), .int .i64 1] ∧ M = M') := by
  refine FnC.intro Try.func90 rfl 48 rfl (by simp) (fun z => ?_)
  refine TC.env (E' := [(0, _), (1, _)]) (Sub.cons rfl (Sub.cons rfl (Sub.nil _))) ?_
  refine TC.sr ?_
  refine TL.d (Does.box rfl rfl) ?_
  rintro _ _ ⟨b1, rfl, rfl⟩
  refine TL.v (Val.assign rfl) ?_
  refine TL.v (Val.assign rfl) ?_
  refine TL.nt ?_
  refine TC.seq ?_
  refine TC.drawL M mixed 13 ?_
  refine TA.tk 0 1 rfl rfl rfl (Val.move rfl) ?_ (hro := ro_s)
  refine TA.tk 1 3 rfl rfl rfl (Val.nilCheck rfl) ?_ (hro := ro_s)
  refine TA.tk 2 7 rfl rfl rfl (Val.fieldAddr rfl fl109_1 sz3 rfl) ?_ (hro := ro_s)
  refine TA.tk 3 15 rfl rfl rfl (Val.load i rfl ag3 hi rfl) ?_ (hro := ro_s)
  refine TA.tk 4 31 rfl rfl rfl (Val.move rfl) ?_ (hro := ro_s)
  refine TA.tk 5 63 rfl rfl rfl (Val.nilCheck rfl) ?_ (hro := ro_s)
  refine TA.tk 6 127 rfl rfl rfl (Val.fieldAddr rfl fl109_3 sz2 rfl) ?_ (hro := ro_s)
  refine TA.tk 7 255 rfl rfl rfl (Val.load i rfl ag2 hi rfl) ?_ (hro := ro_s)
  refine TA.tk 8 511 rfl rfl rfl (Val.add rfl rfl (r := q + 1) (w_i64 (by omega) (by omega))) ?_ (hro := ro_s)
  refine TA.tk 9 1023 rfl rfl rfl (Val.fieldAddr rfl fl61_1 sz3 rfl) ?_ (hro := ro_s)
  refine TA.one 10 (by kernel_rfl) ?_
  refine TO.dz 2047 none rfl rfl rfl rfl (Does.store (i := 0) rfl rfl rfl sz3 rfl rfl (by first | exact Nat.le_of_ble_eq_true rfl | decide | omega) rfl rfl) ?_
  rintro _ _ ⟨rfl, rfl⟩
  refine ⟨ro_s, ?_⟩
  refine TA.tk 11 4095 rfl rfl rfl (Val.fieldAddr rfl fl61_3 sz2 rfl) ?_ (hro := ro_s)
  refine TA.one 12 (by kernel_rfl) ?_
  refine TO.dz 8191 none rfl rfl rfl rfl (Does.store (i := 0) rfl rfl rfl sz2 rfl rfl (by first | exact Nat.le_of_ble_eq_true rfl | decide | omega) rfl rfl) ?_
  rintro _ _ ⟨rfl, rfl⟩
  refine ⟨ro_s, ?_⟩
  refine TA.done (by kernel_rfl) ?_
  refine AtX.then ?_
  refine TC.en (E' := [(0, _), (3, _), (4, _), (5, _)]) ?_
  refine TC.seq ?_
  refine TC.heap (M' := (b1, .cells #[.int .i64 m.kind, .int .i64 w, .int .i64 m.gen, .int .i64 (q + 1), .int .i64 m.epoch, .int .i64 m.value, .int .i64 m.metric] 61 (0, 0)) :: M) (fun w h => h) ?_
  refine TC.drawLM mixed 20 ?_
  refine TA.tk 0 1 rfl rfl rfl (Val.move rfl) ?_
  refine TA.tk 1 3 rfl rfl rfl (Val.nilCheck rfl) ?_
  refine TA.tk 2 7 rfl rfl rfl (Val.fieldAddr rfl fl109_0 sz24 rfl) ?_
  refine TA.tk 3 15 rfl rfl rfl (Val.load (i + 1) rfl ag24 hi rfl) ?_
  refine TA.tk 4 31 rfl rfl rfl (Val.move rfl) ?_
  refine TA.tk 5 63 rfl rfl rfl (Val.nilCheck rfl) ?_
  refine TA.tk 6 127 rfl rfl rfl (Val.fieldAddr rfl fl109_1 sz3 rfl) ?_
  refine TA.tk 7 255 rfl rfl rfl (Val.load (i + 1) rfl ag3 hi rfl) ?_
  refine TA.tk 8 511 rfl rfl rfl (Val.move rfl) ?_
  refine TA.tk 9 1023 rfl rfl rfl (Val.nilCheck rfl) ?_
  refine TA.tk 10 2047 rfl rfl rfl (Val.fieldAddr rfl fl109_2 sz3 rfl) ?_
  refine TA.tk 11 4095 rfl rfl rfl (Val.load (i + 1) rfl ag3 hi rfl) ?_
  refine TA.tk 13 12287 rfl rfl rfl (Val.loadAgg 0 rfl ag61 sz61 rfl rfl rfl) ?_
  refine TA.one 12 (by kernel_rfl) ?_
  refine TO.dz 16383 (some 32) rfl rfl rfl rfl (Does.callF go59 rfl (refOf_fn s w g _)) ?_
  rintro _ _ ⟨rfl, rfl⟩
  refine roK ?_
  refine TA.one 14 (by kernel_rfl) ?_
  refine TO.dz 32767 (some 34) rfl rfl rfl rfl (Does.callF go58 rfl (refSeal_no (macKey s w g) ⟨m.kind, w, m.gen, q + 1, m.epoch, m.value, m.metric⟩ _ hm)) ?_
  rintro _ _ ⟨rfl, rfl⟩
  refine roK ?_
  refine TA.tk 15 65535 rfl rfl rfl (Val.move rfl) ?_
  refine TA.tk 16 131071 rfl rfl rfl (Val.extract rfl rfl) ?_
  refine TA.tk 17 262143 rfl rfl rfl (Val.extract rfl rfl) ?_
  refine TA.tk 18 524287 rfl rfl rfl (Val.assign rfl) ?_
  refine TA.tk 19 1048575 rfl rfl rfl (Val.assign rfl) ?_
  refine TA.done (by kernel_rfl) ?_
  refine AtX.then ?_
  refine TC.en (E' := [(0, _), (4, _), (5, _), (6, _), (7, _)]) ?_
  refine TC.seq ?_
  refine TC.sr ?_
  refine TL.v (Val.move rfl) ?_
  refine TL.v (Val.eqlI rfl rfl) ?_
  refine TL.nt ?_
  refine TC.condP rfl (fun c1 => ?_) (fun c1 => ?_)
  · skip
    exact absurd c1 (by decide)
  · skip
    refine TC.skip ?_
    refine AtX.then ?_
    refine TC.sr ?_
    refine TL.v (Val.move rfl) ?_
    refine TL.v (Val.move rfl) ?_
    refine TL.v (Val.assign rfl) ?_
    refine TL.v (Val.assign rfl) ?_
    refine TL.nt ?_
    refine TC.r2 (M' := M) (fn := Try.f90) (fun _ _ h => h) rfl (RV.tmp rfl) (RV.tmp rfl) ?_
    exact ⟨rfl, rfl⟩

/-- (*quorumite/quorumiteref5.Sealer).Sample -/
theorem refSS_yes (b i : Nat) (s w g q : Int) (M : Hp) (hi : M[i]? = some (rsO b s w g q)) (hq : 0 ≤ q ∧ q ≤ 1099511627776) (me e v : Int) (hm : mayM ⟨1, w, g, q + 1, e, v, me⟩ = true) : FnC Try.prog 56 #[.pointer (some ⟨b, 0, none⟩), .int .i64 me, .int .i64 e, .int .i64 v] M (fun u M' => u = .tuple #[.string (ofL (sealB (macKey s w g) ⟨1, w, g, q + 1, e, v, me⟩)), .int .i64 0] ∧ M' = M.set i (rsO b s w g (q + 1))) := by
  refine FnC.intro Try.func56 rfl 22 rfl (by simp) (fun z => ?_)
  refine TC.env (E' := [(0, _), (1, _), (2, _), (3, _)]) (Sub.cons rfl (Sub.cons rfl (Sub.cons rfl (Sub.cons rfl (Sub.nil _))))) ?_
  refine TC.sr ?_
  refine TL.v (Val.assign rfl) ?_
  refine TL.v (Val.assign rfl) ?_
  refine TL.nt ?_
  refine TC.sr ?_
  refine TL.v (Val.move rfl) ?_
  refine TL.v (Val.move rfl) ?_
  refine TL.v (Val.nilCheck rfl) ?_
  refine TL.v (Val.fieldAddr rfl fl109_2 sz3 rfl) ?_
  refine TL.v (Val.load i rfl ag3 hi rfl) ?_
  refine TL.v (Val.move rfl) ?_
  refine TL.v (Val.move rfl) ?_
  refine TL.v (Val.move rfl) ?_
  refine TL.v (Val.buildS pl61 ze61 rfl rfl) ?_
  refine TL.d (Does.callF go90 rfl (refnext_yes b i s w g q _ hi hq ⟨1, 0, g, 0, e, v, me⟩ hm)) ?_
  rintro _ _ ⟨rfl, rfl⟩
  refine TL.v (Val.extract rfl rfl) ?_
  refine TL.v (Val.extract rfl rfl) ?_
  refine TL.v (Val.assign rfl) ?_
  refine TL.v (Val.assign rfl) ?_
  refine TL.nt ?_
  refine TC.en (E' := [(8, _), (9, _)]) ?_
  refine TC.r2 (hM := (fun _ h => h)) (fn := Try.f56) (fun _ _ h => h) rfl (RV.tmp rfl) (RV.tmp rfl) ?_
  exact ⟨rfl, rfl⟩

/-- (*quorumite/quorumiteref5.Sealer).Sample -/
theorem refSS_no (b i : Nat) (s w g q : Int) (M : Hp) (hi : M[i]? = some (rsO b s w g q)) (hq : 0 ≤ q ∧ q ≤ 1099511627776) (me e v : Int) (hm : mayM ⟨1, w, g, q + 1, e, v, me⟩ = false) : FnC Try.prog 56 #[.pointer (some ⟨b, 0, none⟩), .int .i64 me, .int .i64 e, .int .i64 v] M (fun u M' => u = .tuple #[.string (ofL []), .int .i64 1] ∧ M = M') := by
  refine FnC.intro Try.func56 rfl 22 rfl (by simp) (fun z => ?_)
  refine TC.env (E' := [(0, _), (1, _), (2, _), (3, _)]) (Sub.cons rfl (Sub.cons rfl (Sub.cons rfl (Sub.cons rfl (Sub.nil _))))) ?_
  refine TC.sr ?_
  refine TL.v (Val.assign rfl) ?_
  refine TL.v (Val.assign rfl) ?_
  refine TL.nt ?_
  refine TC.sr ?_
  refine TL.v (Val.move rfl) ?_
  refine TL.v (Val.move rfl) ?_
  refine TL.v (Val.nilCheck rfl) ?_
  refine TL.v (Val.fieldAddr rfl fl109_2 sz3 rfl) ?_
  refine TL.v (Val.load i rfl ag3 hi rfl) ?_
  refine TL.v (Val.move rfl) ?_
  refine TL.v (Val.move rfl) ?_
  refine TL.v (Val.move rfl) ?_
  refine TL.v (Val.buildS pl61 ze61 rfl rfl) ?_
  refine TL.d (Does.callF go90 rfl (refnext_no b i s w g q _ hi hq ⟨1, 0, g, 0, e, v, me⟩ hm)) ?_
  rintro _ _ ⟨rfl, rfl⟩
  refine TL.v (Val.extract rfl rfl) ?_
  refine TL.v (Val.extract rfl rfl) ?_
  refine TL.v (Val.assign rfl) ?_
  refine TL.v (Val.assign rfl) ?_
  refine TL.nt ?_
  refine TC.en (E' := [(8, _), (9, _)]) ?_
  refine TC.r2 (hM := (fun _ h => h)) (fn := Try.f56) (fun _ _ h => h) rfl (RV.tmp rfl) (RV.tmp rfl) ?_
  exact ⟨rfl, rfl⟩

/-- (*quorumite/quorumiteref5.Sealer).Rotate -/
theorem refSR_yes (b i : Nat) (s w g q : Int) (M : Hp) (hi : M[i]? = some (rsO b s w g q)) (hq : 0 ≤ q ∧ q ≤ 1099511627776) (hg : -1 ≤ g ∧ g ≤ 1000000) (e : Int) (hm : mayM ⟨2, w, g + 1, q + 1, e, 0, 0⟩ = true) : FnC Try.prog 57 #[.pointer (some ⟨b, 0, none⟩), .int .i64 e] M (fun u M' => u = .tuple #[.string (ofL (sealB (macKey s w g) ⟨2, w, g + 1, q + 1, e, 0, 0⟩)), .int .i64 0] ∧ M' = M.set i (rsO b s w (g + 1) 0)) := by
  refine FnC.intro Try.func57 rfl 35 rfl (by simp) (fun z => ?_)
  refine TC.env (E' := [(0, _), (1, _)]) (Sub.cons rfl (Sub.cons rfl (Sub.nil _))) ?_
  refine TC.sr ?_
  refine TL.v (Val.assign rfl) ?_
  refine TL.v (Val.assign rfl) ?_
  refine TL.nt ?_
  refine TC.sr ?_
  refine TL.v (Val.move rfl) ?_
  refine TL.v (Val.move rfl) ?_
  refine TL.v (Val.nilCheck rfl) ?_
  refine TL.v (Val.fieldAddr rfl fl109_2 sz3 rfl) ?_
  refine TL.v (Val.load i rfl ag3 hi rfl) ?_
  refine TL.v (Val.add rfl rfl (r := g + 1) (w_i64 (by omega) (by omega))) ?_
  refine TL.v (Val.move rfl) ?_
  refine TL.v (Val.buildS pl61 ze61 rfl rfl) ?_
  refine TL.d (Does.callF go90 rfl (refnext_yes b i s w g q _ hi hq ⟨2, 0, g + 1, 0, e, 0, 0⟩ hm)) ?_
  rintro _ _ ⟨rfl, rfl⟩
  refine TL.v (Val.move rfl) ?_
  refine TL.v (Val.extract rfl rfl) ?_
  refine TL.v (Val.extract rfl rfl) ?_
  refine TL.v (Val.assign rfl) ?_
  refine TL.v (Val.assign rfl) ?_
  refine TL.nt ?_
  refine TC.en (E' := [(0, _), (4, _), (5, _), (6, _), (7, _)]) ?_
  refine TC.seq ?_
  refine TC.sr ?_
  refine TL.v (Val.move rfl) ?_
  refine TL.v (Val.eqlI rfl rfl) ?_
  refine TL.nt ?_
  refine TC.condP rfl (fun c1 => ?_) (fun c1 => ?_)
  · skip
    have hlt : i < M.length := (List.getElem?_eq_some_iff.1 hi).1
    have hi2 : (M.set i (rsO b s w g (q + 1)))[i]? = some (rsO b s w g (q + 1)) := List.getElem?_set_self hlt
    refine TC.region ?_
    refine TL.v (Val.move rfl) ?_
    refine TL.v (Val.move rfl) ?_
    refine TL.v (Val.move rfl) ?_
    refine TL.v (Val.nilCheck rfl) ?_
    refine TL.v (Val.fieldAddr rfl fl109_2 sz3 rfl) ?_
    refine TL.v (Val.load i rfl ag3 hi2 rfl) ?_
    refine TL.v (Val.add rfl rfl (r := g + 1) (w_i64 (by omega) (by omega))) ?_
    refine TL.v (Val.nilCheck rfl) ?_
    refine TL.v (Val.fieldAddr rfl fl109_2 sz3 rfl) ?_
    refine TL.d (Does.store (i := i) rfl rfl hi2 sz3 rfl rfl (by exact Nat.le_of_ble_eq_true rfl) rfl rfl) ?_
    rintro _ _ ⟨rfl, rfl⟩
    rw [List.set_set]
    have hi3 : (M.set i (rsO b s w (g + 1) (q + 1)))[i]? = some (rsO b s w (g + 1) (q + 1)) := List.getElem?_set_self hlt
    refine TL.v (Val.nilCheck rfl) ?_
    refine TL.v (Val.fieldAddr rfl fl109_3 sz2 rfl) ?_
    refine TL.d (Does.store (i := i) rfl rfl hi3 sz2 rfl rfl (by exact Nat.le_of_ble_eq_true rfl) rfl rfl) ?_
    rintro _ _ ⟨rfl, rfl⟩
    rw [List.set_set]
    refine TL.nt ?_
    refine TC.en (E' := [(4, _), (5, _), (6, _), (7, _)]) ?_
    refine TC.sr ?_
    refine TL.v (Val.move rfl) ?_
    refine TL.v (Val.move rfl) ?_
    refine TL.v (Val.assign rfl) ?_
    refine TL.v (Val.assign rfl) ?_
    refine TL.nt ?_
    refine TC.r2 (hM := (fun _ h => h)) (fn := Try.f57) (fun _ _ h => h) rfl (RV.tmp rfl) (RV.tmp rfl) ?_
    exact ⟨rfl, rfl⟩
  · skip
    exact absurd rfl c1

/-- (*quorumite/quorumiteref5.Sealer).Rotate -/
theorem refSR_no (b i : Nat) (s w g q : Int) (M : Hp) (hi : M[i]? = some (rsO b s w g q)) (hq : 0 ≤ q ∧ q ≤ 1099511627776) (hg : -1 ≤ g ∧ g ≤ 1000000) (e : Int) (hm : mayM ⟨2, w, g + 1, q + 1, e, 0, 0⟩ = false) : FnC Try.prog 57 #[.pointer (some ⟨b, 0, none⟩), .int .i64 e] M (fun u M' => u = .tuple #[.string (ofL []), .int .i64 1] ∧ M = M') := by
  refine FnC.intro Try.func57 rfl 35 rfl (by simp) (fun z => ?_)
  refine TC.env (E' := [(0, _), (1, _)]) (Sub.cons rfl (Sub.cons rfl (Sub.nil _))) ?_
  refine TC.sr ?_
  refine TL.v (Val.assign rfl) ?_
  refine TL.v (Val.assign rfl) ?_
  refine TL.nt ?_
  refine TC.sr ?_
  refine TL.v (Val.move rfl) ?_
  refine TL.v (Val.move rfl) ?_
  refine TL.v (Val.nilCheck rfl) ?_
  refine TL.v (Val.fieldAddr rfl fl109_2 sz3 rfl) ?_
  refine TL.v (Val.load i rfl ag3 hi rfl) ?_
  refine TL.v (Val.add rfl rfl (r := g + 1) (w_i64 (by omega) (by omega))) ?_
  refine TL.v (Val.move rfl) ?_
  refine TL.v (Val.buildS pl61 ze61 rfl rfl) ?_
  refine TL.d (Does.callF go90 rfl (refnext_no b i s w g q _ hi hq ⟨2, 0, g + 1, 0, e, 0, 0⟩ hm)) ?_
  rintro _ _ ⟨rfl, rfl⟩
  refine TL.v (Val.move rfl) ?_
  refine TL.v (Val.extract rfl rfl) ?_
  refine TL.v (Val.extract rfl rfl) ?_
  refine TL.v (Val.assign rfl) ?_
  refine TL.v (Val.assign rfl) ?_
  refine TL.nt ?_
  refine TC.en (E' := [(0, _), (4, _), (5, _), (6, _), (7, _)]) ?_
  refine TC.seq ?_
  refine TC.sr ?_
  refine TL.v (Val.move rfl) ?_
  refine TL.v (Val.eqlI rfl rfl) ?_
  refine TL.nt ?_
  refine TC.condP rfl (fun c1 => ?_) (fun c1 => ?_)
  · skip
    exact absurd c1 (by decide)
  · skip
    refine TC.skip ?_
    refine AtX.then ?_
    refine TC.sr ?_
    refine TL.v (Val.move rfl) ?_
    refine TL.v (Val.move rfl) ?_
    refine TL.v (Val.assign rfl) ?_
    refine TL.v (Val.assign rfl) ?_
    refine TL.nt ?_
    refine TC.r2 (hM := (fun _ h => h)) (fn := Try.f57) (fun _ _ h => h) rfl (RV.tmp rfl) (RV.tmp rfl) ?_
    exact ⟨rfl, rfl⟩

end Go.Proofs.Ytphoapajlcaoeaa
/- walks -/
set_option linter.unusedVariables false
set_option linter.unusedSimpArgs false
set_option maxRecDepth 100000
set_option maxHeartbeats 4000000
namespace Go.Proofs.Ytphoapajlcaoeaa
open Go Go.X
/-- math/bits.RotateLeft64 -/
theorem rotl_fn (x : Int) (k : Nat) (M : Hp) (hk : k < 64) : FnC Try.prog 123 #[.int .u64 x, .int .i64 k] M (fun v M' => v = .int .u64 (rotl x k) ∧ M = M') := by
  refine FnC.intro Try.func123 rfl 17 rfl (by simp) (fun z => ?_)
  refine TC.env (E' := [(0, _), (1, _)]) (Sub.cons rfl (Sub.cons rfl (Sub.nil _))) ?_
  refine TC.seq ?_
  refine TC.region ?_
  refine TL.val rfl rfl (Nat.le_of_ble_eq_true rfl) (Val.assign rfl) ?_
  refine TL.nil ?_
  refine AtX.then ?_
  refine TC.seq ?_
  refine TC.region ?_
  refine TL.val rfl rfl (Nat.le_of_ble_eq_true rfl) (Val.move rfl) ?_
  refine TL.val rfl rfl (Nat.le_of_ble_eq_true rfl) (Val.convI rfl iu3 in32 (w_u64 (by omega) (by omega))) ?_
  refine TL.val rfl rfl (Nat.le_of_ble_eq_true rfl) (Val.and rfl rfl (r := (k : Nat)) (and63 ⟨k, hk⟩)) ?_
  refine TL.val rfl rfl (Nat.le_of_ble_eq_true rfl) (Val.assign rfl) ?_
  refine TL.nil ?_
  refine AtX.then ?_
  refine TC.env (E' := [(0, _), (4, _), (5, _)]) (Sub.cons rfl (Sub.cons rfl (Sub.cons rfl (Sub.nil _)))) ?_
  refine TC.seq ?_
  refine TC.region ?_
  refine TL.val rfl rfl (Nat.le_of_ble_eq_true rfl) (Val.move rfl) ?_
  refine TL.val rfl rfl (Nat.le_of_ble_eq_true rfl) (Val.move rfl) ?_
  refine TL.val rfl rfl (Nat.le_of_ble_eq_true rfl) (Val.shl rfl rfl (by omega) (r := IntKind.u64.wrap (x * 2 ^ k)) (by rw [show min ((k : Int)).toNat IntKind.u64.bits = k from by simp only [IntKind.bits]; omega])) ?_
  refine TL.val rfl rfl (Nat.le_of_ble_eq_true rfl) (Val.move rfl) ?_
  refine TL.val rfl rfl (Nat.le_of_ble_eq_true rfl) (Val.move rfl) ?_
  refine TL.val rfl rfl (Nat.le_of_ble_eq_true rfl) (Val.sub rfl rfl (r := ((64 - k : Nat) : Int)) (by rw [w_u64 (by omega) (by omega)]; omega)) ?_
  refine TL.val rfl rfl (Nat.le_of_ble_eq_true rfl) (Val.shr rfl rfl (by omega) (r := x.fdiv (2 ^ (64 - k))) (by rw [show min (((64 - k : Nat) : Int)).toNat IntKind.u64.bits = 64 - k from by simp only [IntKind.bits]; omega])) ?_
  refine TL.val rfl rfl (Nat.le_of_ble_eq_true rfl) (Val.or rfl rfl rfl) ?_
  refine TL.val rfl rfl (Nat.le_of_ble_eq_true rfl) (Val.assign rfl) ?_
  refine TL.nil ?_
  refine AtX.then ?_
  refine TC.env (E' := [(4, _)]) (Sub.cons rfl (Sub.nil _)) ?_
  refine TC.ret1 (fn := Try.f123) (fun _ _ h => h) rfl (RV.tmp rfl) (fun _ h => h) ?_
  exact ⟨rfl, rfl⟩

/-- quorumite/sip.Round -/
theorem Round_fn (w : W4) (M : Hp) : FnC Try.prog 121 #[.int .u64 w.a, .int .u64 w.b, .int .u64 w.c, .int .u64 w.d] M (fun v M' => v = .tuple #[.int .u64 (round1 w).a, .int .u64 (round1 w).b, .int .u64 (round1 w).c, .int .u64 (round1 w).d] ∧ M = M') := by
  refine FnC.intro Try.func121 rfl 48 rfl (by simp) (fun z => ?_)
  refine TC.env (E' := [(0, _), (1, _), (2, _), (3, _)]) (Sub.cons rfl (Sub.cons rfl (Sub.cons rfl (Sub.cons rfl (Sub.nil _))))) ?_
  refine TC.seq ?_
  refine TC.region ?_
  refine TL.val rfl rfl (Nat.le_of_ble_eq_true rfl) (Val.assign rfl) ?_
  refine TL.val rfl rfl (Nat.le_of_ble_eq_true rfl) (Val.assign rfl) ?_
  refine TL.val rfl rfl (Nat.le_of_ble_eq_true rfl) (Val.assign rfl) ?_
  refine TL.val rfl rfl (Nat.le_of_ble_eq_true rfl) (Val.assign rfl) ?_
  refine TL.nil ?_
  refine AtX.then ?_
  refine TC.seq ?_
  refine TC.region ?_
  refine TL.val rfl rfl (Nat.le_of_ble_eq_true rfl) (Val.move rfl) ?_
  refine TL.val rfl rfl (Nat.le_of_ble_eq_true rfl) (Val.move rfl) ?_
  refine TL.val rfl rfl (Nat.le_of_ble_eq_true rfl) (Val.add rfl rfl rfl) ?_
  refine TL.val rfl rfl (Nat.le_of_ble_eq_true rfl) (Val.assign rfl) ?_
  refine TL.nil ?_
  refine AtX.then ?_
  refine TC.env (E' := [(0, _), (1, _), (2, _), (3, _), (8, _), (9, _), (10, _), (11, _)]) (Sub.cons rfl (Sub.cons rfl (Sub.cons rfl (Sub.cons rfl (Sub.cons rfl (Sub.cons rfl (Sub.cons rfl (Sub.cons rfl (Sub.nil _))))))))) ?_
  refine TC.seq ?_
  refine TC.region ?_
  refine TL.val rfl rfl (Nat.le_of_ble_eq_true rfl) (Val.move rfl) ?_
  refine TL.does (some 16) rfl rfl rfl (Does.callF go123 rfl (rotl_fn _ 13 _ (by decide))) ?_
  rintro _ _ ⟨rfl, rfl⟩
  refine TL.val rfl rfl (Nat.le_of_ble_eq_true rfl) (Val.move rfl) ?_
  refine TL.val rfl rfl (Nat.le_of_ble_eq_true rfl) (Val.xor rfl rfl rfl) ?_
  refine TL.val rfl rfl (Nat.le_of_ble_eq_true rfl) (Val.assign rfl) ?_
  refine TL.nil ?_
  refine AtX.then ?_
  refine TC.env (E' := [(0, _), (1, _), (2, _), (3, _), (8, _), (9, _), (10, _), (11, _)]) (Sub.cons rfl (Sub.cons rfl (Sub.cons rfl (Sub.cons rfl (Sub.cons rfl (Sub.cons rfl (Sub.cons rfl (Sub.cons rfl (Sub.nil _))))))))) ?_
  refine TC.seq ?_
  refine TC.region ?_
  refine TL.val rfl rfl (Nat.le_of_ble_eq_true rfl) (Val.move rfl) ?_
  refine TL.does (some 20) rfl rfl rfl (Does.callF go123 rfl (rotl_fn _ 32 _ (by decide))) ?_
  rintro _ _ ⟨rfl, rfl⟩
  refine TL.val rfl rfl (Nat.le_of_ble_eq_true rfl) (Val.assign rfl) ?_
  refine TL.nil ?_
  refine AtX.then ?_
  refine TC.env (E' := [(0, _), (1, _), (2, _), (3, _), (8, _), (9, _), (10, _), (11, _)]) (Sub.cons rfl (Sub.cons rfl (Sub.cons rfl (Sub.cons rfl (Sub.cons rfl (Sub.cons rfl (Sub.cons rfl (Sub.cons rfl (Sub.nil _))))))))) ?_
  refine TC.seq ?_
  refine TC.region ?_
  refine TL.val rfl rfl (Nat.le_of_ble_eq_true rfl) (Val.move rfl) ?_
  refine TL.val rfl rfl (Nat.le_of_ble_eq_true rfl) (Val.move rfl) ?_
  refine TL.val rfl rfl (Nat.le_of_ble_eq_true rfl) (Val.add rfl rfl rfl) ?_
  refine TL.val rfl rfl (Nat.le_of_ble_eq_true rfl) (Val.assign rfl) ?_
  refine TL.nil ?_
  refine AtX.then ?_
  refine TC.env (E' := [(0, _), (1, _), (2, _), (3, _), (8, _), (9, _), (10, _), (11, _)]) (Sub.cons rfl (Sub.cons rfl (Sub.cons rfl (Sub.cons rfl (Sub.cons rfl (Sub.cons rfl (Sub.cons rfl (Sub.cons rfl (Sub.nil _))))))))) ?_
  refine TC.seq ?_
  refine TC.region ?_
  refine TL.val rfl rfl (Nat.le_of_ble_eq_true rfl) (Val.move rfl) ?_
  refine TL.does (some 25) rfl rfl rfl (Does.callF go123 rfl (rotl_fn _ 16 _ (by decide))) ?_
  rintro _ _ ⟨rfl, rfl⟩
  refine TL.val rfl rfl (Nat.le_of_ble_eq_true rfl) (Val.move rfl) ?_
  refine TL.val rfl rfl (Nat.le_of_ble_eq_true rfl) (Val.xor rfl rfl rfl) ?_
  refine TL.val rfl rfl (Nat.le_of_ble_eq_true rfl) (Val.assign rfl) ?_
  refine TL.nil ?_
  refine AtX.then ?_
  refine TC.env (E' := [(0, _), (1, _), (2, _), (3, _), (8, _), (9, _), (10, _), (11, _)]) (Sub.cons rfl (Sub.cons rfl (Sub.cons rfl (Sub.cons rfl (Sub.cons rfl (Sub.cons rfl (Sub.cons rfl (Sub.cons rfl (Sub.nil _))))))))) ?_
  refine TC.seq ?_
  refine TC.region ?_
  refine TL.val rfl rfl (Nat.le_of_ble_eq_true rfl) (Val.move rfl) ?_
  refine TL.val rfl rfl (Nat.le_of_ble_eq_true rfl) (Val.move rfl) ?_
  refine TL.val rfl rfl (Nat.le_of_ble_eq_true rfl) (Val.add rfl rfl rfl) ?_
  refine TL.val rfl rfl (Nat.le_of_ble_eq_true rfl) (Val.assign rfl) ?_
  refine TL.nil ?_
  refine AtX.then ?_
  refine TC.env (E' := [(0, _), (1, _), (2, _), (3, _), (8, _), (9, _), (10, _), (11, _)]) (Sub.cons rfl (Sub.cons rfl (Sub.cons rfl (Sub.cons rfl (Sub.cons rfl (Sub.cons rfl (Sub.cons rfl (Sub.cons rfl (Sub.nil _))))))))) ?_
  refine TC.seq ?_
  refine TC.region ?_
  refine TL.val rfl rfl (Nat.le_of_ble_eq_true rfl) (Val.move rfl) ?_
  refine TL.does (some 32) rfl rfl rfl (Does.callF go123 rfl (rotl_fn _ 21 _ (by decide))) ?_
  rintro _ _ ⟨rfl, rfl⟩
  refine TL.val rfl rfl (Nat.le_of_ble_eq_true rfl) (Val.move rfl) ?_
  refine TL.val rfl rfl (Nat.le_of_ble_eq_true rfl) (Val.xor rfl rfl rfl) ?_
  refine TL.val rfl rfl (Nat.le_of_ble_eq_true rfl) (Val.assign rfl) ?_
  refine TL.nil ?_
  refine AtX.then ?_
  refine TC.env (E' := [(0, _), (1, _), (2, _), (3, _), (8, _), (9, _), (10, _), (11, _)]) (Sub.cons rfl (Sub.cons rfl (Sub.cons rfl (Sub.cons rfl (Sub.cons rfl (Sub.cons rfl (Sub.cons rfl (Sub.cons rfl (Sub.nil _))))))))) ?_
  refine TC.seq ?_
  refine TC.region ?_
  refine TL.val rfl rfl (Nat.le_of_ble_eq_true rfl) (Val.move rfl) ?_
  refine TL.val rfl rfl (Nat.le_of_ble_eq_true rfl) (Val.move rfl) ?_
  refine TL.val rfl rfl (Nat.le_of_ble_eq_true rfl) (Val.add rfl rfl rfl) ?_
  refine TL.val rfl rfl (Nat.le_of_ble_eq_true rfl) (Val.assign rfl) ?_
  refine TL.nil ?_
  refine AtX.then ?_
  refine TC.env (E' := [(0, _), (1, _), (2, _), (3, _), (8, _), (9, _), (10, _), (11, _)]) (Sub.cons rfl (Sub.cons rfl (Sub.cons rfl (Sub.cons rfl (Sub.cons rfl (Sub.cons rfl (Sub.cons rfl (Sub.cons rfl (Sub.nil _))))))))) ?_
  refine TC.seq ?_
  refine TC.region ?_
  refine TL.val rfl rfl (Nat.le_of_ble_eq_true rfl) (Val.move rfl) ?_
  refine TL.does (some 39) rfl rfl rfl (Does.callF go123 rfl (rotl_fn _ 17 _ (by decide))) ?_
  rintro _ _ ⟨rfl, rfl⟩
  refine TL.val rfl rfl (Nat.le_of_ble_eq_true rfl) (Val.move rfl) ?_
  refine TL.val rfl rfl (Nat.le_of_ble_eq_true rfl) (Val.xor rfl rfl rfl) ?_
  refine TL.val rfl rfl (Nat.le_of_ble_eq_true rfl) (Val.assign rfl) ?_
  refine TL.nil ?_
  refine AtX.then ?_
  refine TC.env (E' := [(0, _), (1, _), (2, _), (3, _), (8, _), (9, _), (10, _), (11, _)]) (Sub.cons rfl (Sub.cons rfl (Sub.cons rfl (Sub.cons rfl (Sub.cons rfl (Sub.cons rfl (Sub.cons rfl (Sub.cons rfl (Sub.nil _))))))))) ?_
  refine TC.seq ?_
  refine TC.region ?_
  refine TL.val rfl rfl (Nat.le_of_ble_eq_true rfl) (Val.move rfl) ?_
  refine TL.does (some 43) rfl rfl rfl (Does.callF go123 rfl (rotl_fn _ 32 _ (by decide))) ?_
  rintro _ _ ⟨rfl, rfl⟩
  refine TL.val rfl rfl (Nat.le_of_ble_eq_true rfl) (Val.assign rfl) ?_
  refine TL.nil ?_
  refine AtX.then ?_
  refine TC.env (E' := [(0, _), (1, _), (2, _), (3, _), (8, _), (9, _), (10, _), (11, _)]) (Sub.cons rfl (Sub.cons rfl (Sub.cons rfl (Sub.cons rfl (Sub.cons rfl (Sub.cons rfl (Sub.cons rfl (Sub.cons rfl (Sub.nil _))))))))) ?_
  refine TC.seq ?_
  refine TC.region ?_
  refine TL.val rfl rfl (Nat.le_of_ble_eq_true rfl) (Val.move rfl) ?_
  refine TL.val rfl rfl (Nat.le_of_ble_eq_true rfl) (Val.move rfl) ?_
  refine TL.val rfl rfl (Nat.le_of_ble_eq_true rfl) (Val.move rfl) ?_
  refine TL.val rfl rfl (Nat.le_of_ble_eq_true rfl) (Val.move rfl) ?_
  refine TL.val rfl rfl (Nat.le_of_ble_eq_true rfl) (Val.assign rfl) ?_
  refine TL.val rfl rfl (Nat.le_of_ble_eq_true rfl) (Val.assign rfl) ?_
  refine TL.val rfl rfl (Nat.le_of_ble_eq_true rfl) (Val.assign rfl) ?_
  refine TL.val rfl rfl (Nat.le_of_ble_eq_true rfl) (Val.assign rfl) ?_
  refine TL.nil ?_
  refine AtX.then ?_
  refine TC.env (E' := [(8, _), (9, _), (10, _), (11, _)]) (Sub.cons rfl (Sub.cons rfl (Sub.cons rfl (Sub.cons rfl (Sub.nil _))))) ?_
  refine TC.ret4 (fn := Try.f121) (fun _ _ h => h) rfl (RV.tmp rfl) (RV.tmp rfl) (RV.tmp rfl) (RV.tmp rfl) (fun _ h => h) ?_
  exact ⟨rfl, rfl⟩

end Go.Proofs.Ytphoapajlcaoeaa
