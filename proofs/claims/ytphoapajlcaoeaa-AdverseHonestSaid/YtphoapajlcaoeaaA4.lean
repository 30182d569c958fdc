/- walks -/
import Derived.Test.YtphoapajlcaoeaaA3
import Derived.Test.YtphoapajlcaoeaaE9d
set_option linter.unusedVariables false
set_option linter.unusedSimpArgs false
set_option maxRecDepth 100000
set_option maxHeartbeats 4000000
namespace Go.Proofs.Ytphoapajlcaoeaa
open Go Go.X
/-- quorumite/sip.Put -/
theorem sipPut_fn (n : Int) (M : Hp) : FnC Try.prog 78 #[.int .u64 n] M (fun v M' => ∃ b c sp, v = .slice (some ⟨b, 0, none⟩) 8 c ∧ 8 + sp.length = c ∧ M' = (b, row 5 (bv (put8 n) ++ sp)) :: M) := by
  refine FnC.intro Try.func78 rfl 19 rfl (by simp) (fun z => ?_)
  refine TC.env (E' := [(0, _)]) (Sub.cons rfl (Sub.nil _)) ?_
  refine TC.seq ?_
  refine TC.region ?_
  refine TL.val rfl rfl (Nat.le_of_ble_eq_true rfl) (Val.assign rfl) ?_
  refine TL.nil ?_
  refine AtX.then ?_
  refine TC.seq ?_
  refine TC.region ?_
  refine TL.val rfl rfl (Nat.le_of_ble_eq_true rfl) (Val.assign rfl) ?_
  refine TL.nil ?_
  refine AtX.then ?_
  refine TC.seq ?_
  refine TC.seq ?_
  refine TC.region ?_
  refine TL.val rfl rfl (Nat.le_of_ble_eq_true rfl) (Val.move rfl) ?_
  refine TL.nil ?_
  refine AtX.then ?_
  refine TC.block ?_
  refine TC.loop (ι := (Nat × Sl)) (fun i => [(0, .int .u64 n), (3, .slice (slA i.2) i.1 (slC i.2)), (5, .int .i64 (i.1 : Nat))]) (fun i => slH i.2 5 (bv (pb n i.1)) ++ M) (fun i => i.1 ≤ 8 ∧ slOk i.2 1 i.1 (bv (pb n i.1))) (fun i => 8 - i.1) (0, none) ?_ (Sub.cons rfl (Sub.cons rfl (Sub.cons rfl (Sub.nil _)))) (fun _ h => h) ?_
  · exact ⟨by omega, slOk_nil 1⟩
  rintro ⟨k, σ⟩ ⟨hk, hok⟩
  dsimp only at hk hok ⊢
  refine TC.seq ?_
  refine TC.region ?_
  refine TL.val rfl rfl (Nat.le_of_ble_eq_true rfl) (Val.lss rfl rfl) ?_
  refine TL.nil ?_
  refine AtX.then ?_
  refine TC.seq ?_
  first | refine TC.condP rfl (fun c1 => ?_) (fun c1 => ?_) | refine TC.condN rfl (fun c1 => ?_) (fun c1 => ?_) | refine TC.condB rfl (fun c1 => ?_) (fun c1 => ?_) | refine TC.cond rfl (fun c1 => ?_) (fun c1 => ?_)
  · skip
    refine TC.skip ?_
    refine AtX.then ?_
    refine TC.seq ?_
    refine TC.block ?_
    refine TC.seq ?_
    refine TC.region ?_
    refine TL.val rfl rfl (Nat.le_of_ble_eq_true rfl) (Val.move rfl) ?_
    refine TL.val rfl rfl (Nat.le_of_ble_eq_true rfl) (Val.assign rfl) ?_
    refine TL.nil ?_
    refine AtX.then ?_
    refine TC.region ?_
    refine TL.val rfl rfl (Nat.le_of_ble_eq_true rfl) (Val.move rfl) ?_
    refine TL.val rfl rfl (Nat.le_of_ble_eq_true rfl) (Val.move rfl) ?_
    refine TL.val rfl rfl (Nat.le_of_ble_eq_true rfl) (Val.move rfl) ?_
    first
      | refine TL.val rfl rfl (Nat.le_of_ble_eq_true rfl) (Val.mul rfl rfl (w_i64 (by omega) (by omega))) ?_
      | refine TL.val rfl rfl (Nat.le_of_ble_eq_true rfl) (Val.mul rfl rfl rfl) ?_
    first
      | refine TL.val rfl rfl (Nat.le_of_ble_eq_true rfl) (Val.convI rfl iu3 in32 (w_u64 (by omega) (by omega))) ?_
      | refine TL.val rfl rfl (Nat.le_of_ble_eq_true rfl) (Val.convI rfl iu3 in32 rfl) ?_
    refine TL.val rfl rfl (Nat.le_of_ble_eq_true rfl) (Val.shr rfl rfl (by omega) (shr_val (by omega))) ?_
    refine TL.val rfl rfl (Nat.le_of_ble_eq_true rfl) (Val.convI rfl iu24 in5 w_b8) ?_
    refine TL.does (some 15) rfl rfl rfl (Does.buildSlice sl37 sz5 ze5 (by decide) (by decide) rfl rfl rfl) ?_
    rintro _ _ ⟨b1, rfl, rfl⟩
    refine TL.does (some 16) rfl rfl rfl (Does.appendS (xs := bv (pb n k)) (ys := bv [byteAt n k]) σ M (ro_tail ro_refl) rfl rfl sl37 sz5 by5 ze5 rfl hok (.inl ⟨_, _, rfl, ⟨5, us37⟩, .some (Rd.get (i := 0) rfl rfl)⟩) rfl (bv_one _) (by omega) (by omega)) ?_
    rintro _ _ ⟨σ1, rfl, hok1, rfl⟩
    refine TL.val rfl rfl (Nat.le_of_ble_eq_true rfl) (Val.assign rfl) ?_
    refine TL.nil ?_
    refine AtX.blk ?_
    refine AtX.then ?_
    refine TC.region ?_
    first
      | refine TL.val rfl rfl (Nat.le_of_ble_eq_true rfl) (Val.add rfl rfl (w_i64 (by omega) (by omega))) ?_
      | refine TL.val rfl rfl (Nat.le_of_ble_eq_true rfl) (Val.add rfl rfl rfl) ?_
    refine TL.val rfl rfl (Nat.le_of_ble_eq_true rfl) (Val.move rfl) ?_
    refine TL.nil ?_
    refine AtX.round (i := (k, σ)) (k + 1, σ1) ?_ ?_ (Sub.cons rfl (Sub.cons rfl (Sub.cons rfl (Sub.nil _)))) (fun w h => by simp only [pb, bv_append]; exact h)
    · exact ⟨by omega, by simp only [pb, bv_append]; exact hok1⟩
    · show 8 - (k + 1) < 8 - k; omega
  · skip
    refine TC.exit ?_
    refine AtX.seqX ?_
    refine AtX.seqX ?_
    refine AtX.hit ?_
    refine AtX.then ?_
    refine TC.env (E' := [(3, _)]) (Sub.cons rfl (Sub.nil _)) ?_
    refine TC.seq ?_
    refine TC.region ?_
    refine TL.val rfl rfl (Nat.le_of_ble_eq_true rfl) (Val.move rfl) ?_
    refine TL.val rfl rfl (Nat.le_of_ble_eq_true rfl) (Val.assign rfl) ?_
    refine TL.nil ?_
    refine AtX.then ?_
    refine TC.env (E' := [(2, _)]) (Sub.cons rfl (Sub.nil _)) ?_
    refine TC.ret1 (fn := Try.f78) (fun _ _ h => h) rfl (RV.tmp rfl) (fun _ h => h) ?_
    have h8 : k = 8 := by omega
    subst h8
    obtain ⟨b, c, sp, rfl, hc⟩ := hok.some (by omega)
    exact ⟨b, c, sp, rfl, by simpa using hc, rfl⟩

/-- quorumite/sip.Get -/
theorem sipGet_fn (l : List UInt8) (A : Option Addr) (n c : Nat) (o : Nat) (M : Hp) (hA : RdS M A (bv l)) (hn : n = l.length) (hl : l.length ≤ 1000) (ho : o + 8 ≤ l.length) : FnC Try.prog 106 #[.slice A n c, .int .i64 o] M (fun v M' => v = .tuple #[.int .u64 (get8 l o : Nat), .int .i64 0] ∧ M = M') := by
  subst hn
  obtain ⟨b, q, rfl, hR⟩ := RdS.get hA (by simp; omega)
  refine FnC.intro Try.func106 rfl 35 rfl (by simp) (fun z => ?_)
  refine TC.env (E' := [(0, _), (1, _)]) (Sub.cons rfl (Sub.cons rfl (Sub.nil _))) ?_
  refine TC.seq ?_
  refine TC.region ?_
  refine TL.val rfl rfl (Nat.le_of_ble_eq_true rfl) (Val.assign rfl) ?_
  refine TL.val rfl rfl (Nat.le_of_ble_eq_true rfl) (Val.assign rfl) ?_
  refine TL.nil ?_
  refine AtX.then ?_
  refine TC.seq ?_
  refine TC.seq ?_
  refine TC.region ?_
  refine TL.val rfl rfl (Nat.le_of_ble_eq_true rfl) (Val.move rfl) ?_
  refine TL.val rfl rfl (Nat.le_of_ble_eq_true rfl) (Val.lss rfl rfl) ?_
  refine TL.val rfl rfl (Nat.le_of_ble_eq_true rfl) (Val.move rfl) ?_
  refine TL.gen (fun g1 hg1 => ?_)
  refine TL.gval rfl rfl (Nat.le_of_ble_eq_true rfl) rfl (Nat.le_of_ble_eq_true rfl) rfl (fun hg => by subst hg; exact (Val.move rfl)) ?_
  refine TL.gval rfl rfl (Nat.le_of_ble_eq_true rfl) rfl (Nat.le_of_ble_eq_true rfl) rfl (fun hg => by subst hg; exact (Val.move rfl)) ?_
  refine TL.gval rfl rfl (Nat.le_of_ble_eq_true rfl) rfl (Nat.le_of_ble_eq_true rfl) rfl (fun hg => by subst hg; exact (Val.lenSl rfl rfl sl37)) ?_
  first
    | refine TL.gval rfl rfl (Nat.le_of_ble_eq_true rfl) rfl (Nat.le_of_ble_eq_true rfl) rfl (fun hg => by subst hg; exact (Val.sub rfl rfl (w_i64 (by omega) (by omega)))) ?_
    | refine TL.gval rfl rfl (Nat.le_of_ble_eq_true rfl) rfl (Nat.le_of_ble_eq_true rfl) rfl (fun hg => by subst hg; exact (Val.sub rfl rfl rfl)) ?_
  refine TL.gval rfl rfl (Nat.le_of_ble_eq_true rfl) rfl (Nat.le_of_ble_eq_true rfl) rfl (fun hg => by subst hg; exact (Val.gtr rfl rfl)) ?_
  first
    | refine TL.val rfl rfl (Nat.le_of_ble_eq_true rfl) (Val.pickAnd rfl rfl rfl) ?_
    | refine TL.val rfl rfl (Nat.le_of_ble_eq_true rfl) (Val.pickOr rfl rfl rfl) ?_
    | refine TL.val rfl rfl (Nat.le_of_ble_eq_true rfl) (Val.pick rfl rfl rfl) ?_
  refine TL.nil ?_
  refine AtX.then ?_
  refine TC.env (E' := [(0, _), (1, _), (4, _), (5, _), (16, _)]) (Sub.cons rfl (Sub.cons rfl (Sub.cons rfl (Sub.cons rfl (Sub.cons rfl (Sub.nil _)))))) ?_
  first | refine TC.condP rfl (fun c1 => ?_) (fun c1 => ?_) | refine TC.condN rfl (fun c1 => ?_) (fun c1 => ?_) | refine TC.condB rfl (fun c1 => ?_) (fun c1 => ?_) | refine TC.cond rfl (fun c1 => ?_) (fun c1 => ?_)
  · skip
    simp only [Bool.or_eq_true, decide_eq_true_eq] at c1; subst_vars; simp only [decide_eq_true_eq] at c1; omega
  · skip
    refine TC.env (E' := [(0, _), (1, _), (4, _), (5, _)]) (Sub.cons rfl (Sub.cons rfl (Sub.cons rfl (Sub.cons rfl (Sub.nil _))))) ?_
    refine TC.skip ?_
    refine AtX.then ?_
    refine TC.env (E' := [(0, _), (1, _), (4, _), (5, _)]) (Sub.cons rfl (Sub.cons rfl (Sub.cons rfl (Sub.cons rfl (Sub.nil _))))) ?_
    refine TC.seq ?_
    refine TC.region ?_
    refine TL.val rfl rfl (Nat.le_of_ble_eq_true rfl) (Val.assign rfl) ?_
    refine TL.nil ?_
    refine AtX.then ?_
    refine TC.env (E' := [(0, _), (1, _), (4, _), (5, _), (6, _)]) (Sub.cons rfl (Sub.cons rfl (Sub.cons rfl (Sub.cons rfl (Sub.cons rfl (Sub.nil _)))))) ?_
    refine TC.seq ?_
    refine TC.seq ?_
    refine TC.region ?_
    refine TL.val rfl rfl (Nat.le_of_ble_eq_true rfl) (Val.move rfl) ?_
    refine TL.nil ?_
    refine AtX.then ?_
    refine TC.env (E' := [(0, _), (1, _), (4, _), (5, _), (6, _), (17, _)]) (Sub.cons rfl (Sub.cons rfl (Sub.cons rfl (Sub.cons rfl (Sub.cons rfl (Sub.cons rfl (Sub.nil _))))))) ?_
    refine TC.block ?_
    refine TC.loop (ι := Nat) (fun k => [(0, .slice (some ⟨b, q, none⟩) l.length c), (1, .int .i64 o), (6, .int .u64 (getTo l o k : Nat)), (17, .int .i64 (k : Nat))]) (fun _ => M) (fun k => k ≤ 8) (fun k => 8 - k) 0 ?_ (Sub.cons rfl (Sub.cons rfl (Sub.cons rfl (Sub.cons rfl (Sub.nil _))))) (fun _ h => h) ?_
    · exact Nat.zero_le _
    intro k hk
    refine TC.seq ?_
    refine TC.region ?_
    refine TL.val rfl rfl (Nat.le_of_ble_eq_true rfl) (Val.lss rfl rfl) ?_
    refine TL.nil ?_
    refine AtX.then ?_
    refine TC.seq ?_
    first | refine TC.condP rfl (fun c2 => ?_) (fun c2 => ?_) | refine TC.condN rfl (fun c2 => ?_) (fun c2 => ?_) | refine TC.condB rfl (fun c2 => ?_) (fun c2 => ?_) | refine TC.cond rfl (fun c2 => ?_) (fun c2 => ?_)
    · skip
      refine TC.skip ?_
      refine AtX.then ?_
      refine TC.seq ?_
      refine TC.block ?_
      refine TC.seq ?_
      refine TC.region ?_
      refine TL.val rfl rfl (Nat.le_of_ble_eq_true rfl) (Val.move rfl) ?_
      refine TL.val rfl rfl (Nat.le_of_ble_eq_true rfl) (Val.assign rfl) ?_
      refine TL.nil ?_
      refine AtX.then ?_
      have hlt : k < 8 := by omega
      have hB := getTo_lt l o k
      have hc : (l.getD (o + k) 0).toNat < 256 := UInt8.toNat_lt _
      refine TC.region ?_
      refine TL.val rfl rfl (Nat.le_of_ble_eq_true rfl) (Val.move rfl) ?_
      refine TL.val rfl rfl (Nat.le_of_ble_eq_true rfl) (Val.move rfl) ?_
      refine TL.val rfl rfl (Nat.le_of_ble_eq_true rfl) (Val.move rfl) ?_
      refine TL.val rfl rfl (Nat.le_of_ble_eq_true rfl) (Val.move rfl) ?_
      first
        | refine TL.val rfl rfl (Nat.le_of_ble_eq_true rfl) (Val.add rfl rfl (w_i64 (by omega) (by omega))) ?_
        | refine TL.val rfl rfl (Nat.le_of_ble_eq_true rfl) (Val.add rfl rfl rfl) ?_
      refine TL.val rfl rfl (Nat.le_of_ble_eq_true rfl) (Val.indexAddr (i := o + k) rfl rfl sl37 sz5 (by push_cast; rfl) (by omega) rfl) ?_
      refine TL.val rfl rfl (Nat.le_of_ble_eq_true rfl) (Val.loadB (o + k) rfl ag5 hR (by simp) (by omega)) ?_
      first
        | refine TL.val rfl rfl (Nat.le_of_ble_eq_true rfl) (Val.convI rfl iu5 in24 (w_u64 (by omega) (by omega))) ?_
        | refine TL.val rfl rfl (Nat.le_of_ble_eq_true rfl) (Val.convI rfl iu5 in24 rfl) ?_
      refine TL.val rfl rfl (Nat.le_of_ble_eq_true rfl) (Val.move rfl) ?_
      first
        | refine TL.val rfl rfl (Nat.le_of_ble_eq_true rfl) (Val.mul rfl rfl (w_i64 (by omega) (by omega))) ?_
        | refine TL.val rfl rfl (Nat.le_of_ble_eq_true rfl) (Val.mul rfl rfl rfl) ?_
      first
        | refine TL.val rfl rfl (Nat.le_of_ble_eq_true rfl) (Val.convI rfl iu3 in32 (w_u64 (by omega) (by omega))) ?_
        | refine TL.val rfl rfl (Nat.le_of_ble_eq_true rfl) (Val.convI rfl iu3 in32 rfl) ?_
      refine TL.val rfl rfl (Nat.le_of_ble_eq_true rfl) (Val.shl rfl rfl (by omega) (shl_val hlt hc)) ?_
      refine TL.val rfl rfl (Nat.le_of_ble_eq_true rfl) (Val.or rfl rfl (or_add hlt hB hc)) ?_
      refine TL.val rfl rfl (Nat.le_of_ble_eq_true rfl) (Val.assign rfl) ?_
      refine TL.nil ?_
      refine AtX.blk ?_
      refine AtX.then ?_
      refine TC.region ?_
      first
        | refine TL.val rfl rfl (Nat.le_of_ble_eq_true rfl) (Val.add rfl rfl (w_i64 (by omega) (by omega))) ?_
        | refine TL.val rfl rfl (Nat.le_of_ble_eq_true rfl) (Val.add rfl rfl rfl) ?_
      refine TL.val rfl rfl (Nat.le_of_ble_eq_true rfl) (Val.move rfl) ?_
      refine TL.nil ?_
      refine AtX.round (k + 1) ?_ ?_ (Sub.cons rfl (Sub.cons rfl (Sub.cons rfl (Sub.cons rfl (Sub.nil _))))) (fun _ h => h)
      · omega
      · omega
    · skip
      refine TC.exit ?_
      refine AtX.seqX ?_
      refine AtX.seqX ?_
      refine AtX.hit ?_
      refine AtX.then ?_
      refine TC.env (E' := [(6, _)]) (Sub.cons rfl (Sub.nil _)) ?_
      refine TC.seq ?_
      refine TC.region ?_
      refine TL.val rfl rfl (Nat.le_of_ble_eq_true rfl) (Val.move rfl) ?_
      refine TL.val rfl rfl (Nat.le_of_ble_eq_true rfl) (Val.assign rfl) ?_
      refine TL.val rfl rfl (Nat.le_of_ble_eq_true rfl) (Val.assign rfl) ?_
      refine TL.nil ?_
      refine AtX.then ?_
      refine TC.env (E' := [(4, _), (5, _)]) (Sub.cons rfl (Sub.cons rfl (Sub.nil _))) ?_
      refine TC.ret2 (fn := Try.f106) (fun _ _ h => h) rfl (RV.tmp rfl) (RV.tmp rfl) (fun _ h => h) ?_
      refine ⟨?_, rfl⟩
      have : k = 8 := by omega
      subst this; rfl

/-- (*quorumite/sip.Hash).Write -/
theorem Write_fn (b : Nat) (w : W4) (l : List UInt8) (A : Option Addr) (n c : Nat) (M : Hp) (hA : RdS M A (bv l)) (hn : n = l.length) (hl : l.length ≤ 1000) : FnC Try.prog 103 #[.pointer (some ⟨b, 0, none⟩), .slice A n c] (hobj b w none 0 0 0 :: M) (fun v M' => ∃ σ A' cp, v = .int .i64 n ∧ RdS (slH σ 5 (bv l) ++ M) A' (bv (l.drop (8 * (l.length / 8)))) ∧ M' = hobj b (absorb l (l.length / 8) w) A' (l.length - 8 * (l.length / 8)) cp l.length :: (slH σ 5 (bv l) ++ M)) := by
  subst hn
  refine FnC.intro Try.func103 rfl 54 rfl (by simp) (fun z => ?_)
  refine TC.env (E' := [(0, _), (1, _)]) (Sub.cons rfl (Sub.cons rfl (Sub.nil _))) ?_
  refine TC.seq ?_
  refine TC.region ?_
  refine TL.val rfl rfl (Nat.le_of_ble_eq_true rfl) (Val.assign rfl) ?_
  refine TL.nil ?_
  refine AtX.then ?_
  refine TC.seq ?_
  refine TC.seq ?_
  refine TC.region ?_
  refine TL.val rfl rfl (Nat.le_of_ble_eq_true rfl) (Val.move rfl) ?_
  refine TL.val rfl rfl (Nat.le_of_ble_eq_true rfl) (Val.eqlNil rfl rfl pt165) ?_
  refine TL.nil ?_
  refine AtX.then ?_
  refine TC.env (E' := [(0, _), (1, _), (4, _), (8, _)]) (Sub.cons rfl (Sub.cons rfl (Sub.cons rfl (Sub.cons rfl (Sub.nil _))))) ?_
  first | refine TC.condP rfl (fun c1 => ?_) (fun c1 => ?_) | refine TC.condN rfl (fun c1 => ?_) (fun c1 => ?_) | refine TC.condB rfl (fun c1 => ?_) (fun c1 => ?_) | refine TC.cond rfl (fun c1 => ?_) (fun c1 => ?_)
  · skip
    cases c1
  · skip
    refine TC.env (E' := [(0, _), (1, _), (4, _)]) (Sub.cons rfl (Sub.cons rfl (Sub.cons rfl (Sub.nil _)))) ?_
    refine TC.skip ?_
    refine AtX.then ?_
    refine TC.env (E' := [(0, _), (1, _), (4, _)]) (Sub.cons rfl (Sub.cons rfl (Sub.cons rfl (Sub.nil _)))) ?_
    refine TC.seq ?_
    refine TC.region ?_
    refine TL.val rfl rfl (Nat.le_of_ble_eq_true rfl) (Val.move rfl) ?_
    refine TL.val rfl rfl (Nat.le_of_ble_eq_true rfl) (Val.nilCheck rfl) ?_
    refine TL.val rfl rfl (Nat.le_of_ble_eq_true rfl) (Val.fieldAddr rfl fl185_2 sz3 rfl) ?_
    first
      | refine TL.val rfl rfl (Nat.le_of_ble_eq_true rfl) (Val.load 0 rfl ag3 rfl rfl) ?_
      | refine TL.val rfl rfl (Nat.le_of_ble_eq_true rfl) (Val.load 1 rfl ag3 rfl rfl) ?_
      | refine TL.val rfl rfl (Nat.le_of_ble_eq_true rfl) (Val.load 2 rfl ag3 rfl rfl) ?_
      | refine TL.val rfl rfl (Nat.le_of_ble_eq_true rfl) (Val.load 3 rfl ag3 rfl rfl) ?_
      | refine TL.val rfl rfl (Nat.le_of_ble_eq_true rfl) (Val.load 4 rfl ag3 rfl rfl) ?_
      | refine TL.val rfl rfl (Nat.le_of_ble_eq_true rfl) (Val.load 5 rfl ag3 rfl rfl) ?_
    refine TL.val rfl rfl (Nat.le_of_ble_eq_true rfl) (Val.move rfl) ?_
    refine TL.val rfl rfl (Nat.le_of_ble_eq_true rfl) (Val.lenSl rfl rfl sl37) ?_
    refine TL.val rfl rfl (Nat.le_of_ble_eq_true rfl) (Val.add rfl rfl (r := ((l.length : Nat) : Int)) (by rw [w_i64 (by omega) (by omega)]; omega)) ?_
    refine TL.val rfl rfl (Nat.le_of_ble_eq_true rfl) (Val.nilCheck rfl) ?_
    refine TL.val rfl rfl (Nat.le_of_ble_eq_true rfl) (Val.fieldAddr rfl fl185_2 sz3 rfl) ?_
    first
      | refine TL.does none rfl rfl rfl (Does.store (i := 0) rfl rfl rfl sz3 rfl rfl (by first | exact Nat.le_of_ble_eq_true rfl | decide | omega) rfl rfl) ?_
      | refine TL.does none rfl rfl rfl (Does.store (i := 1) rfl rfl rfl sz3 rfl rfl (by first | exact Nat.le_of_ble_eq_true rfl | decide | omega) rfl rfl) ?_
      | refine TL.does none rfl rfl rfl (Does.store (i := 2) rfl rfl rfl sz3 rfl rfl (by first | exact Nat.le_of_ble_eq_true rfl | decide | omega) rfl rfl) ?_
      | refine TL.does none rfl rfl rfl (Does.store (i := 3) rfl rfl rfl sz3 rfl rfl (by first | exact Nat.le_of_ble_eq_true rfl | decide | omega) rfl rfl) ?_
      | refine TL.does none rfl rfl rfl (Does.store (i := 4) rfl rfl rfl sz3 rfl rfl (by first | exact Nat.le_of_ble_eq_true rfl | decide | omega) rfl rfl) ?_
      | refine TL.does none rfl rfl rfl (Does.store (i := 5) rfl rfl rfl sz3 rfl rfl (by first | exact Nat.le_of_ble_eq_true rfl | decide | omega) rfl rfl) ?_
    rintro _ _ ⟨rfl, rfl⟩
    refine TL.nil ?_
    refine AtX.then ?_
    refine TC.env (E' := [(0, _), (1, _), (4, _)]) (Sub.cons rfl (Sub.cons rfl (Sub.cons rfl (Sub.nil _)))) ?_
    refine TC.seq ?_
    refine TC.region ?_
    refine TL.val rfl rfl (Nat.le_of_ble_eq_true rfl) (Val.move rfl) ?_
    refine TL.val rfl rfl (Nat.le_of_ble_eq_true rfl) (Val.move rfl) ?_
    refine TL.val rfl rfl (Nat.le_of_ble_eq_true rfl) (Val.nilCheck rfl) ?_
    refine TL.val rfl rfl (Nat.le_of_ble_eq_true rfl) (Val.fieldAddr rfl fl185_1 sz37 rfl) ?_
    first
      | refine TL.val rfl rfl (Nat.le_of_ble_eq_true rfl) (Val.load 0 rfl ag37 rfl rfl) ?_
      | refine TL.val rfl rfl (Nat.le_of_ble_eq_true rfl) (Val.load 1 rfl ag37 rfl rfl) ?_
      | refine TL.val rfl rfl (Nat.le_of_ble_eq_true rfl) (Val.load 2 rfl ag37 rfl rfl) ?_
      | refine TL.val rfl rfl (Nat.le_of_ble_eq_true rfl) (Val.load 3 rfl ag37 rfl rfl) ?_
      | refine TL.val rfl rfl (Nat.le_of_ble_eq_true rfl) (Val.load 4 rfl ag37 rfl rfl) ?_
      | refine TL.val rfl rfl (Nat.le_of_ble_eq_true rfl) (Val.load 5 rfl ag37 rfl rfl) ?_
    refine TL.val rfl rfl (Nat.le_of_ble_eq_true rfl) (Val.move rfl) ?_
    refine TL.does (some 24) rfl rfl rfl (Does.appendS (xs := []) (ys := bv l) none (hobj b w none 0 0 l.length :: M) ro_refl rfl rfl sl37 sz5 by5 ze5 rfl (slOk_nil 1) (srcB us37 (hA.cons _)) (by simp) (bv_one _) (by omega) (by omega)) ?_
    rintro _ _ ⟨σ, rfl, hok, rfl⟩
    rw [List.nil_append] at hok ⊢
    rw [Nat.zero_add] at hok ⊢
    refine TL.heap (M' := hobj b w none 0 0 l.length :: (slH σ 5 (bv l) ++ M)) ro_mid ?_
    have hcap := hok.cap
    refine TL.val rfl rfl (Nat.le_of_ble_eq_true rfl) (Val.nilCheck rfl) ?_
    refine TL.val rfl rfl (Nat.le_of_ble_eq_true rfl) (Val.fieldAddr rfl fl185_1 sz37 rfl) ?_
    first
      | refine TL.does none rfl rfl rfl (Does.store (i := 0) rfl rfl rfl sz37 rfl rfl (by first | exact Nat.le_of_ble_eq_true rfl | decide | omega) rfl rfl) ?_
      | refine TL.does none rfl rfl rfl (Does.store (i := 1) rfl rfl rfl sz37 rfl rfl (by first | exact Nat.le_of_ble_eq_true rfl | decide | omega) rfl rfl) ?_
      | refine TL.does none rfl rfl rfl (Does.store (i := 2) rfl rfl rfl sz37 rfl rfl (by first | exact Nat.le_of_ble_eq_true rfl | decide | omega) rfl rfl) ?_
      | refine TL.does none rfl rfl rfl (Does.store (i := 3) rfl rfl rfl sz37 rfl rfl (by first | exact Nat.le_of_ble_eq_true rfl | decide | omega) rfl rfl) ?_
      | refine TL.does none rfl rfl rfl (Does.store (i := 4) rfl rfl rfl sz37 rfl rfl (by first | exact Nat.le_of_ble_eq_true rfl | decide | omega) rfl rfl) ?_
      | refine TL.does none rfl rfl rfl (Does.store (i := 5) rfl rfl rfl sz37 rfl rfl (by first | exact Nat.le_of_ble_eq_true rfl | decide | omega) rfl rfl) ?_
    rintro _ _ ⟨rfl, rfl⟩
    refine TL.nil ?_
    refine AtX.then ?_
    refine TC.env (E' := [(0, _), (1, _), (4, _)]) (Sub.cons rfl (Sub.cons rfl (Sub.cons rfl (Sub.nil _)))) ?_
    refine TC.seq ?_
    refine TC.block ?_
    refine TC.loop (ι := (Nat × Option Addr)) (fun i => [(0, .pointer (some ⟨b, 0, none⟩)), (1, .slice A l.length c)]) (fun i => hobj b (absorb l i.1 w) i.2 (l.length - 8 * i.1) (slC σ - 8 * i.1) l.length :: (slH σ 5 (bv l) ++ M)) (fun i => 8 * i.1 ≤ l.length ∧ RdS (slH σ 5 (bv l) ++ M) i.2 (bv (l.drop (8 * i.1)))) (fun i => l.length - 8 * i.1) (0, slA σ) ?_ (Sub.cons rfl (Sub.cons rfl (Sub.nil _))) (fun _ h => h) ?_
    · exact ⟨by omega, slRd hok (fun x h => List.mem_append_left _ h)⟩
    rintro ⟨k, A1⟩ ⟨hk, hR⟩
    dsimp only at hk hR ⊢
    refine TC.seq ?_
    refine TC.seq ?_
    refine TC.region ?_
    refine TL.val rfl rfl (Nat.le_of_ble_eq_true rfl) (Val.move rfl) ?_
    refine TL.val rfl rfl (Nat.le_of_ble_eq_true rfl) (Val.nilCheck rfl) ?_
    refine TL.val rfl rfl (Nat.le_of_ble_eq_true rfl) (Val.fieldAddr rfl fl185_1 sz37 rfl) ?_
    first
      | refine TL.val rfl rfl (Nat.le_of_ble_eq_true rfl) (Val.load 0 rfl ag37 rfl rfl) ?_
      | refine TL.val rfl rfl (Nat.le_of_ble_eq_true rfl) (Val.load 1 rfl ag37 rfl rfl) ?_
      | refine TL.val rfl rfl (Nat.le_of_ble_eq_true rfl) (Val.load 2 rfl ag37 rfl rfl) ?_
      | refine TL.val rfl rfl (Nat.le_of_ble_eq_true rfl) (Val.load 3 rfl ag37 rfl rfl) ?_
      | refine TL.val rfl rfl (Nat.le_of_ble_eq_true rfl) (Val.load 4 rfl ag37 rfl rfl) ?_
      | refine TL.val rfl rfl (Nat.le_of_ble_eq_true rfl) (Val.load 5 rfl ag37 rfl rfl) ?_
    refine TL.val rfl rfl (Nat.le_of_ble_eq_true rfl) (Val.lenSl rfl rfl sl37) ?_
    refine TL.val rfl rfl (Nat.le_of_ble_eq_true rfl) (Val.geq rfl rfl) ?_
    refine TL.nil ?_
    refine AtX.then ?_
    first | refine TC.condP rfl (fun c2 => ?_) (fun c2 => ?_) | refine TC.condN rfl (fun c2 => ?_) (fun c2 => ?_) | refine TC.condB rfl (fun c2 => ?_) (fun c2 => ?_) | refine TC.cond rfl (fun c2 => ?_) (fun c2 => ?_)
    · skip
      refine TC.skip ?_
      refine AtX.then ?_
      refine TC.block ?_
      refine TC.seq ?_
      refine TC.region ?_
      refine TL.val rfl rfl (Nat.le_of_ble_eq_true rfl) (Val.move rfl) ?_
      refine TL.val rfl rfl (Nat.le_of_ble_eq_true rfl) (Val.nilCheck rfl) ?_
      refine TL.val rfl rfl (Nat.le_of_ble_eq_true rfl) (Val.fieldAddr rfl fl185_1 sz37 rfl) ?_
      first
        | refine TL.val rfl rfl (Nat.le_of_ble_eq_true rfl) (Val.load 0 rfl ag37 rfl rfl) ?_
        | refine TL.val rfl rfl (Nat.le_of_ble_eq_true rfl) (Val.load 1 rfl ag37 rfl rfl) ?_
        | refine TL.val rfl rfl (Nat.le_of_ble_eq_true rfl) (Val.load 2 rfl ag37 rfl rfl) ?_
        | refine TL.val rfl rfl (Nat.le_of_ble_eq_true rfl) (Val.load 3 rfl ag37 rfl rfl) ?_
        | refine TL.val rfl rfl (Nat.le_of_ble_eq_true rfl) (Val.load 4 rfl ag37 rfl rfl) ?_
        | refine TL.val rfl rfl (Nat.le_of_ble_eq_true rfl) (Val.load 5 rfl ag37 rfl rfl) ?_
      refine TL.does (some 38) rfl rfl rfl (Does.callF go106 rfl (sipGet_fn (l.drop (8 * k)) _ _ _ 0 _ (hR.cons _) (by rw [List.length_drop]) (by rw [List.length_drop]; omega) (by rw [List.length_drop]; omega))) ?_
      rintro _ _ ⟨rfl, rfl⟩
      rw [get8_drop]
      refine TL.val rfl rfl (Nat.le_of_ble_eq_true rfl) (Val.move rfl) ?_
      refine TL.val rfl rfl (Nat.le_of_ble_eq_true rfl) (Val.extract rfl rfl) ?_
      refine TL.val rfl rfl (Nat.le_of_ble_eq_true rfl) (Val.extract rfl rfl) ?_
      refine TL.val rfl rfl (Nat.le_of_ble_eq_true rfl) (Val.assign rfl) ?_
      refine TL.val rfl rfl (Nat.le_of_ble_eq_true rfl) (Val.assign rfl) ?_
      refine TL.nil ?_
      refine AtX.then ?_
      refine TC.env (E' := [(0, _), (1, _), (5, _), (27, _), (28, _), (29, _), (30, _), (31, _), (32, _), (33, _), (34, _), (35, _), (36, _), (37, _), (38, _), (39, _), (40, _)]) (Sub.cons rfl (Sub.cons rfl (Sub.cons rfl (Sub.cons rfl (Sub.cons rfl (Sub.cons rfl (Sub.cons rfl (Sub.cons rfl (Sub.cons rfl (Sub.cons rfl (Sub.cons rfl (Sub.cons rfl (Sub.cons rfl (Sub.cons rfl (Sub.cons rfl (Sub.cons rfl (Sub.cons rfl (Sub.nil _)))))))))))))))))) ?_
      refine TC.seq ?_
      refine TC.region ?_
      refine TL.val rfl rfl (Nat.le_of_ble_eq_true rfl) (Val.move rfl) ?_
      refine TL.val rfl rfl (Nat.le_of_ble_eq_true rfl) (Val.move rfl) ?_
      refine TL.does (some 43) rfl rfl rfl (Does.callF go115 rfl (take_fn b (absorb l k w) _ _ _ _ _ _)) ?_
      rintro _ _ ⟨rfl, rfl⟩
      refine TL.nil ?_
      refine AtX.then ?_
      refine TC.env (E' := [(0, _), (1, _), (5, _), (27, _), (28, _), (29, _), (30, _), (31, _), (32, _), (33, _), (34, _), (35, _), (36, _), (37, _), (38, _), (39, _), (40, _), (41, _), (42, _)]) (Sub.cons rfl (Sub.cons rfl (Sub.cons rfl (Sub.cons rfl (Sub.cons rfl (Sub.cons rfl (Sub.cons rfl (Sub.cons rfl (Sub.cons rfl (Sub.cons rfl (Sub.cons rfl (Sub.cons rfl (Sub.cons rfl (Sub.cons rfl (Sub.cons rfl (Sub.cons rfl (Sub.cons rfl (Sub.cons rfl (Sub.cons rfl (Sub.nil _)))))))))))))))))))) ?_
      refine TC.region ?_
      refine TL.val rfl rfl (Nat.le_of_ble_eq_true rfl) (Val.move rfl) ?_
      refine TL.val rfl rfl (Nat.le_of_ble_eq_true rfl) (Val.move rfl) ?_
      refine TL.val rfl rfl (Nat.le_of_ble_eq_true rfl) (Val.nilCheck rfl) ?_
      refine TL.val rfl rfl (Nat.le_of_ble_eq_true rfl) (Val.fieldAddr rfl fl185_1 sz37 rfl) ?_
      first
        | refine TL.val rfl rfl (Nat.le_of_ble_eq_true rfl) (Val.load 0 rfl ag37 rfl rfl) ?_
        | refine TL.val rfl rfl (Nat.le_of_ble_eq_true rfl) (Val.load 1 rfl ag37 rfl rfl) ?_
        | refine TL.val rfl rfl (Nat.le_of_ble_eq_true rfl) (Val.load 2 rfl ag37 rfl rfl) ?_
        | refine TL.val rfl rfl (Nat.le_of_ble_eq_true rfl) (Val.load 3 rfl ag37 rfl rfl) ?_
        | refine TL.val rfl rfl (Nat.le_of_ble_eq_true rfl) (Val.load 4 rfl ag37 rfl rfl) ?_
        | refine TL.val rfl rfl (Nat.le_of_ble_eq_true rfl) (Val.load 5 rfl ag37 rfl rfl) ?_
      refine TL.val rfl rfl (Nat.le_of_ble_eq_true rfl) (Val.slice (i := 8) (j := l.length - 8 * k) (q := if slC σ - 8 * k = 8 then A1 else A1.map (·.add (8 * 1))) rfl sl37 sz5 rfl rfl rfl rfl (by omega) (by omega) rfl) ?_
      refine TL.val rfl rfl (Nat.le_of_ble_eq_true rfl) (Val.nilCheck rfl) ?_
      refine TL.val rfl rfl (Nat.le_of_ble_eq_true rfl) (Val.fieldAddr rfl fl185_1 sz37 rfl) ?_
      first
        | refine TL.does none rfl rfl rfl (Does.store (i := 0) rfl rfl rfl sz37 rfl rfl (by first | exact Nat.le_of_ble_eq_true rfl | decide | omega) rfl rfl) ?_
        | refine TL.does none rfl rfl rfl (Does.store (i := 1) rfl rfl rfl sz37 rfl rfl (by first | exact Nat.le_of_ble_eq_true rfl | decide | omega) rfl rfl) ?_
        | refine TL.does none rfl rfl rfl (Does.store (i := 2) rfl rfl rfl sz37 rfl rfl (by first | exact Nat.le_of_ble_eq_true rfl | decide | omega) rfl rfl) ?_
        | refine TL.does none rfl rfl rfl (Does.store (i := 3) rfl rfl rfl sz37 rfl rfl (by first | exact Nat.le_of_ble_eq_true rfl | decide | omega) rfl rfl) ?_
        | refine TL.does none rfl rfl rfl (Does.store (i := 4) rfl rfl rfl sz37 rfl rfl (by first | exact Nat.le_of_ble_eq_true rfl | decide | omega) rfl rfl) ?_
        | refine TL.does none rfl rfl rfl (Does.store (i := 5) rfl rfl rfl sz37 rfl rfl (by first | exact Nat.le_of_ble_eq_true rfl | decide | omega) rfl rfl) ?_
      rintro _ _ ⟨rfl, rfl⟩
      refine TL.nil ?_
      refine AtX.blk ?_
      refine AtX.round (i := (k, A1)) (k + 1, if slC σ - 8 * k = 8 then A1 else A1.map (·.add (8 * 1))) ?_ ?_ (Sub.cons rfl (Sub.cons rfl (Sub.nil _))) (fun w h => by simp only [Nat.mul_add_one, Nat.sub_add_eq]; exact h)
      · exact ⟨by omega, by rw [← drop_8]; exact rdS_drop8 hR (by rw [List.length_drop]; omega) (by rw [List.length_drop]; omega)⟩
      · show l.length - 8 * (k + 1) < l.length - 8 * k; omega
    · skip
      refine TC.exit ?_
      refine AtX.seqX ?_
      refine AtX.seqX ?_
      refine AtX.hit ?_
      refine AtX.then ?_
      refine TC.env (E' := [(1, _)]) (Sub.cons rfl (Sub.nil _)) ?_
      refine TC.seq ?_
      refine TC.region ?_
      refine TL.val rfl rfl (Nat.le_of_ble_eq_true rfl) (Val.move rfl) ?_
      refine TL.val rfl rfl (Nat.le_of_ble_eq_true rfl) (Val.lenSl rfl rfl sl37) ?_
      refine TL.val rfl rfl (Nat.le_of_ble_eq_true rfl) (Val.assign rfl) ?_
      refine TL.nil ?_
      refine AtX.then ?_
      refine TC.env (E' := [(4, _)]) (Sub.cons rfl (Sub.nil _)) ?_
      refine TC.ret1 (fn := Try.f103) (fun _ _ h => h) rfl (RV.tmp rfl) (fun _ h => h) ?_
      have hk8 : k = l.length / 8 := by omega
      subst hk8
      exact ⟨σ, A1, _, rfl, hR, rfl⟩

/-- (*quorumite/sip.Hash).Sum -/
theorem HSum_fn (b : Nat) (w : W4) (d : List UInt8) (A : Option Addr) (n c : Nat) (k : Int) (M : Hp) (hA : RdS M A (bv d)) (hn : n = d.length) (hd : d.length ≤ 7) : FnC Try.prog 104 #[.pointer (some ⟨b, 0, none⟩)] (hobj b w A n c k :: M) (fun v M' => v = .int .u64 (endW (takeW (get8 (d ++ List.replicate (7 - d.length) 0 ++ [b8 k]) 0 : Nat) w)) ∧ hobj b w A n c k :: M = M') := by
  subst hn
  obtain ⟨E0, hE0⟩ : ∃ E0, E0 = d ++ List.replicate (7 - d.length) 0 ++ [Go.X.b8 k] := ⟨_, rfl⟩
  have hEl : E0.length = 8 := by rw [hE0]; simp; omega
  rw [← hE0]
  refine FnC.intro Try.func104 rfl 62 rfl (by simp) (fun z => ?_)
  refine TC.env (E' := [(0, _)]) (Sub.cons rfl (Sub.nil _)) ?_
  refine TC.seq ?_
  refine TC.region ?_
  refine TL.val rfl rfl (Nat.le_of_ble_eq_true rfl) (Val.assign rfl) ?_
  refine TL.nil ?_
  refine AtX.then ?_
  refine TC.seq ?_
  refine TC.seq ?_
  refine TC.region ?_
  refine TL.val rfl rfl (Nat.le_of_ble_eq_true rfl) (Val.move rfl) ?_
  refine TL.val rfl rfl (Nat.le_of_ble_eq_true rfl) (Val.eqlNil rfl rfl pt165) ?_
  refine TL.nil ?_
  refine AtX.then ?_
  refine TC.env (E' := [(0, _), (2, _), (8, _)]) (Sub.cons rfl (Sub.cons rfl (Sub.cons rfl (Sub.nil _)))) ?_
  first | refine TC.condP rfl (fun c1 => ?_) (fun c1 => ?_) | refine TC.condN rfl (fun c1 => ?_) (fun c1 => ?_) | refine TC.condB rfl (fun c1 => ?_) (fun c1 => ?_) | refine TC.cond rfl (fun c1 => ?_) (fun c1 => ?_)
  · skip
    cases c1
  · skip
    refine TC.env (E' := [(0, _), (2, _)]) (Sub.cons rfl (Sub.cons rfl (Sub.nil _))) ?_
    refine TC.skip ?_
    refine AtX.then ?_
    refine TC.env (E' := [(0, _), (2, _)]) (Sub.cons rfl (Sub.cons rfl (Sub.nil _))) ?_
    refine TC.seq ?_
    refine TC.region ?_
    refine TL.val rfl rfl (Nat.le_of_ble_eq_true rfl) (Val.move rfl) ?_
    refine TL.val rfl rfl (Nat.le_of_ble_eq_true rfl) (Val.nilCheck rfl) ?_
    refine TL.val rfl rfl (Nat.le_of_ble_eq_true rfl) (Val.fieldAddr rfl fl185_0 sz182 rfl) ?_
    first
      | refine TL.val rfl rfl (Nat.le_of_ble_eq_true rfl) (Val.loadAgg 0 rfl ag182 sz182 rfl rfl rfl) ?_
      | refine TL.val rfl rfl (Nat.le_of_ble_eq_true rfl) (Val.loadAgg 1 rfl ag182 sz182 rfl rfl rfl) ?_
      | refine TL.val rfl rfl (Nat.le_of_ble_eq_true rfl) (Val.loadAgg 2 rfl ag182 sz182 rfl rfl rfl) ?_
      | refine TL.val rfl rfl (Nat.le_of_ble_eq_true rfl) (Val.loadAgg 3 rfl ag182 sz182 rfl rfl rfl) ?_
      | refine TL.val rfl rfl (Nat.le_of_ble_eq_true rfl) (Val.loadAgg 4 rfl ag182 sz182 rfl rfl rfl) ?_
      | refine TL.val rfl rfl (Nat.le_of_ble_eq_true rfl) (Val.loadAgg 5 rfl ag182 sz182 rfl rfl rfl) ?_
    refine TL.val rfl rfl (Nat.le_of_ble_eq_true rfl) (Val.buildS pl185 ze185 rfl rfl) ?_
    refine TL.does (some 3) rfl rfl rfl (Does.alloc ze185 rfl) ?_
    rintro _ _ ⟨b1, rfl, rfl⟩
    first
      | refine TL.does none rfl rfl rfl (Does.store (i := 0) rfl rfl rfl sz185 rfl rfl (by first | exact Nat.le_of_ble_eq_true rfl | decide | omega) rfl rfl) ?_
      | refine TL.does none rfl rfl rfl (Does.store (i := 1) rfl rfl rfl sz185 rfl rfl (by first | exact Nat.le_of_ble_eq_true rfl | decide | omega) rfl rfl) ?_
      | refine TL.does none rfl rfl rfl (Does.store (i := 2) rfl rfl rfl sz185 rfl rfl (by first | exact Nat.le_of_ble_eq_true rfl | decide | omega) rfl rfl) ?_
      | refine TL.does none rfl rfl rfl (Does.store (i := 3) rfl rfl rfl sz185 rfl rfl (by first | exact Nat.le_of_ble_eq_true rfl | decide | omega) rfl rfl) ?_
      | refine TL.does none rfl rfl rfl (Does.store (i := 4) rfl rfl rfl sz185 rfl rfl (by first | exact Nat.le_of_ble_eq_true rfl | decide | omega) rfl rfl) ?_
      | refine TL.does none rfl rfl rfl (Does.store (i := 5) rfl rfl rfl sz185 rfl rfl (by first | exact Nat.le_of_ble_eq_true rfl | decide | omega) rfl rfl) ?_
    rintro _ _ ⟨rfl, rfl⟩
    refine TL.nil ?_
    refine AtX.then ?_
    refine TC.env (E' := [(0, _), (2, _), (3, _)]) (Sub.cons rfl (Sub.cons rfl (Sub.cons rfl (Sub.nil _)))) ?_
    refine TC.seq ?_
    refine TC.drawLM mixed 13 ?_
    refine TA.tk 0 1 rfl rfl rfl (Val.move rfl) ?_
    refine TA.tk 1 3 rfl rfl rfl (Val.nilCheck rfl) ?_
    refine TA.tk 2 7 rfl rfl rfl (Val.fieldAddr rfl fl185_1 sz37 rfl) ?_
    first
      | refine TA.tk 3 15 rfl rfl rfl (Val.load 0 rfl ag37 rfl rfl) ?_
      | refine TA.tk 3 15 rfl rfl rfl (Val.load 1 rfl ag37 rfl rfl) ?_
      | refine TA.tk 3 15 rfl rfl rfl (Val.load 2 rfl ag37 rfl rfl) ?_
      | refine TA.tk 3 15 rfl rfl rfl (Val.load 3 rfl ag37 rfl rfl) ?_
      | refine TA.tk 3 15 rfl rfl rfl (Val.load 4 rfl ag37 rfl rfl) ?_
      | refine TA.tk 3 15 rfl rfl rfl (Val.load 5 rfl ag37 rfl rfl) ?_
    refine TA.tk 5 47 rfl rfl rfl (Val.move rfl) ?_
    refine TA.tk 6 111 rfl rfl rfl (Val.nilCheck rfl) ?_
    refine TA.tk 7 239 rfl rfl rfl (Val.fieldAddr rfl fl185_1 sz37 rfl) ?_
    first
      | refine TA.tk 8 495 rfl rfl rfl (Val.load 0 rfl ag37 rfl rfl) ?_
      | refine TA.tk 8 495 rfl rfl rfl (Val.load 1 rfl ag37 rfl rfl) ?_
      | refine TA.tk 8 495 rfl rfl rfl (Val.load 2 rfl ag37 rfl rfl) ?_
      | refine TA.tk 8 495 rfl rfl rfl (Val.load 3 rfl ag37 rfl rfl) ?_
      | refine TA.tk 8 495 rfl rfl rfl (Val.load 4 rfl ag37 rfl rfl) ?_
      | refine TA.tk 8 495 rfl rfl rfl (Val.load 5 rfl ag37 rfl rfl) ?_
    refine TA.tk 9 1007 rfl rfl rfl (Val.lenSl rfl rfl sl37) ?_
    refine TA.tk 10 2031 rfl rfl rfl (Val.sub rfl rfl (r := ((7 - d.length : Nat) : Int)) (by rw [w_i64 (by omega) (by omega)]; omega)) ?_
    refine TA.one 4 (by kernel_rfl) ?_
    refine TO.dz 2047 (some 18) rfl rfl rfl rfl (Does.appendS (xs := []) (ys := bv d) none (hobj b1 w none 0 0 0 :: hobj b w A d.length c k :: M) ro_refl rfl rfl sl37 sz5 by5 ze5 rfl (slOk_nil 1) (srcB us37 ((hA.cons _).cons _)) (by simp) (bv_one _) (by omega) (by omega)) ?_
    rintro _ _ ⟨σ, rfl, hok, rfl⟩
    rw [List.nil_append] at hok ⊢
    rw [Nat.zero_add d.length] at hok ⊢
    refine roK ?_
    refine TA.one 11 (by kernel_rfl) ?_
    refine TO.dz 4095 (some 25) rfl rfl rfl rfl (Does.appendS (xs := bv d) (ys := bv (List.replicate (7 - d.length) 0)) σ (hobj b1 w none 0 0 0 :: hobj b w A d.length c k :: M) ro_refl rfl rfl sl37 sz5 by5 ze5 rfl hok (srcZ ui3 (by omega)) (by simp) (bv_one _) (by omega) (by omega)) ?_
    rintro _ _ ⟨σ2, rfl, hok2, rfl⟩
    rw [← bv_append] at hok2 ⊢
    have e7 : d.length + (7 - d.length) = 7 := by omega
    rw [e7] at hok2 ⊢
    refine roK ?_
    refine TA.tk 12 8191 rfl rfl rfl (Val.assign rfl) ?_
    refine TA.done (by kernel_rfl) ?_
    refine AtX.then ?_
    refine TC.env (E' := [(0, _), (2, _), (3, _), (4, _)]) (Sub.cons rfl (Sub.cons rfl (Sub.cons rfl (Sub.cons rfl (Sub.nil _))))) ?_
    refine TC.seq ?_
    refine TC.heap (M' := hobj b1 w none 0 0 0 :: hobj b w A d.length c k :: (slH σ2 5 (bv (d ++ List.replicate (7 - d.length) 0)) ++ M)) ro_mid2 ?_
    refine TC.region ?_
    refine TL.val rfl rfl (Nat.le_of_ble_eq_true rfl) (Val.move rfl) ?_
    refine TL.val rfl rfl (Nat.le_of_ble_eq_true rfl) (Val.move rfl) ?_
    refine TL.val rfl rfl (Nat.le_of_ble_eq_true rfl) (Val.nilCheck rfl) ?_
    refine TL.val rfl rfl (Nat.le_of_ble_eq_true rfl) (Val.fieldAddr rfl fl185_2 sz3 rfl) ?_
    first
      | refine TL.val rfl rfl (Nat.le_of_ble_eq_true rfl) (Val.load 0 rfl ag3 rfl rfl) ?_
      | refine TL.val rfl rfl (Nat.le_of_ble_eq_true rfl) (Val.load 1 rfl ag3 rfl rfl) ?_
      | refine TL.val rfl rfl (Nat.le_of_ble_eq_true rfl) (Val.load 2 rfl ag3 rfl rfl) ?_
      | refine TL.val rfl rfl (Nat.le_of_ble_eq_true rfl) (Val.load 3 rfl ag3 rfl rfl) ?_
      | refine TL.val rfl rfl (Nat.le_of_ble_eq_true rfl) (Val.load 4 rfl ag3 rfl rfl) ?_
      | refine TL.val rfl rfl (Nat.le_of_ble_eq_true rfl) (Val.load 5 rfl ag3 rfl rfl) ?_
    refine TL.val rfl rfl (Nat.le_of_ble_eq_true rfl) (Val.convI rfl iu3 in5 w_b8) ?_
    refine TL.does (some 33) rfl rfl rfl (Does.buildSlice sl37 sz5 ze5 (by decide) (by decide) rfl rfl rfl) ?_
    rintro _ _ ⟨b2, rfl, rfl⟩
    refine TL.does (some 34) rfl rfl rfl (Does.appendS (xs := bv (d ++ List.replicate (7 - d.length) 0)) (ys := bv [Go.X.b8 k]) σ2 (hobj b1 w none 0 0 0 :: hobj b w A d.length c k :: M) (ro_tail ro_dim2) rfl rfl sl37 sz5 by5 ze5 rfl hok2 (.inl ⟨_, _, rfl, ⟨5, us37⟩, .some (Rd.get (i := 0) rfl rfl)⟩) rfl (bv_one _) (by omega) (by omega)) ?_
    rintro _ _ ⟨σ3, rfl, hok3, rfl⟩
    rw [← bv_append, ← hE0] at hok3 ⊢
    refine TL.does (some 35) rfl rfl rfl (Does.callF go106 rfl (sipGet_fn E0 _ _ _ 0 _ (slRd hok3 (fun x h => List.mem_append_left _ h)) (by rw [hEl]) (by omega) (by omega))) ?_
    rintro _ _ ⟨rfl, rfl⟩
    generalize ((get8 E0 0 : Nat) : Int) = m
    refine TL.val rfl rfl (Nat.le_of_ble_eq_true rfl) (Val.move rfl) ?_
    refine TL.val rfl rfl (Nat.le_of_ble_eq_true rfl) (Val.extract rfl rfl) ?_
    refine TL.val rfl rfl (Nat.le_of_ble_eq_true rfl) (Val.extract rfl rfl) ?_
    refine TL.val rfl rfl (Nat.le_of_ble_eq_true rfl) (Val.assign rfl) ?_
    refine TL.val rfl rfl (Nat.le_of_ble_eq_true rfl) (Val.assign rfl) ?_
    refine TL.nil ?_
    refine AtX.then ?_
    refine TC.env (E' := [(2, _), (3, _), (5, _)]) (Sub.cons rfl (Sub.cons rfl (Sub.cons rfl (Sub.nil _)))) ?_
    refine TC.seq ?_
    refine TC.heap (M' := hobj b1 w none 0 0 0 :: hobj b w A d.length c k :: M) (ro_app ro_refl) ?_
    refine TC.region ?_
    refine TL.val rfl rfl (Nat.le_of_ble_eq_true rfl) (Val.move rfl) ?_
    refine TL.does (some 39) rfl rfl rfl (Does.callF go115 rfl (take_fn b1 w none 0 0 0 _ _)) ?_
    rintro _ _ ⟨rfl, rfl⟩
    generalize hw2 : takeW m w = w2
    refine TL.nil ?_
    refine AtX.then ?_
    refine TC.env (E' := [(2, _), (3, _)]) (Sub.cons rfl (Sub.cons rfl (Sub.nil _))) ?_
    refine TC.seq ?_
    refine TC.region ?_
    refine TL.val rfl rfl (Nat.le_of_ble_eq_true rfl) (Val.fieldAddr rfl fl185_0 sz182 rfl) ?_
    refine TL.val rfl rfl (Nat.le_of_ble_eq_true rfl) (Val.indexAddrA (i := 2) rfl rfl ar182 sz24 rfl (by first | decide | omega) rfl) ?_
    first
      | refine TL.val rfl rfl (Nat.le_of_ble_eq_true rfl) (Val.load 0 rfl ag24 rfl rfl) ?_
      | refine TL.val rfl rfl (Nat.le_of_ble_eq_true rfl) (Val.load 1 rfl ag24 rfl rfl) ?_
      | refine TL.val rfl rfl (Nat.le_of_ble_eq_true rfl) (Val.load 2 rfl ag24 rfl rfl) ?_
      | refine TL.val rfl rfl (Nat.le_of_ble_eq_true rfl) (Val.load 3 rfl ag24 rfl rfl) ?_
      | refine TL.val rfl rfl (Nat.le_of_ble_eq_true rfl) (Val.load 4 rfl ag24 rfl rfl) ?_
      | refine TL.val rfl rfl (Nat.le_of_ble_eq_true rfl) (Val.load 5 rfl ag24 rfl rfl) ?_
    refine TL.val rfl rfl (Nat.le_of_ble_eq_true rfl) (Val.xor rfl rfl rfl) ?_
    refine TL.val rfl rfl (Nat.le_of_ble_eq_true rfl) (Val.fieldAddr rfl fl185_0 sz182 rfl) ?_
    refine TL.val rfl rfl (Nat.le_of_ble_eq_true rfl) (Val.indexAddrA (i := 2) rfl rfl ar182 sz24 rfl (by first | decide | omega) rfl) ?_
    first
      | refine TL.does none rfl rfl rfl (Does.store (i := 0) rfl rfl rfl sz24 rfl rfl (by first | exact Nat.le_of_ble_eq_true rfl | decide | omega) rfl rfl) ?_
      | refine TL.does none rfl rfl rfl (Does.store (i := 1) rfl rfl rfl sz24 rfl rfl (by first | exact Nat.le_of_ble_eq_true rfl | decide | omega) rfl rfl) ?_
      | refine TL.does none rfl rfl rfl (Does.store (i := 2) rfl rfl rfl sz24 rfl rfl (by first | exact Nat.le_of_ble_eq_true rfl | decide | omega) rfl rfl) ?_
      | refine TL.does none rfl rfl rfl (Does.store (i := 3) rfl rfl rfl sz24 rfl rfl (by first | exact Nat.le_of_ble_eq_true rfl | decide | omega) rfl rfl) ?_
      | refine TL.does none rfl rfl rfl (Does.store (i := 4) rfl rfl rfl sz24 rfl rfl (by first | exact Nat.le_of_ble_eq_true rfl | decide | omega) rfl rfl) ?_
      | refine TL.does none rfl rfl rfl (Does.store (i := 5) rfl rfl rfl sz24 rfl rfl (by first | exact Nat.le_of_ble_eq_true rfl | decide | omega) rfl rfl) ?_
    rintro _ _ ⟨rfl, rfl⟩
    refine TL.nil ?_
    refine AtX.then ?_
    refine TC.env (E' := [(2, _), (3, _)]) (Sub.cons rfl (Sub.cons rfl (Sub.nil _))) ?_
    refine TC.seq ?_
    refine TC.region ?_
    refine TL.does (some 46) rfl rfl rfl (Does.callF go116 rfl (turn_fn b1 ⟨w2.a, w2.b, xor64 w2.c 255, w2.d⟩ none 0 0 0 4 _ (by decide))) ?_
    rintro _ _ ⟨rfl, rfl⟩
    generalize hv : rounds 4 _ = v
    refine TL.nil ?_
    refine AtX.then ?_
    refine TC.env (E' := [(2, _), (3, _)]) (Sub.cons rfl (Sub.cons rfl (Sub.nil _))) ?_
    refine TC.seq ?_
    refine TC.region ?_
    refine TL.val rfl rfl (Nat.le_of_ble_eq_true rfl) (Val.fieldAddr rfl fl185_0 sz182 rfl) ?_
    refine TL.val rfl rfl (Nat.le_of_ble_eq_true rfl) (Val.indexAddrA (i := 0) rfl rfl ar182 sz24 rfl (by first | decide | omega) rfl) ?_
    first
      | refine TL.val rfl rfl (Nat.le_of_ble_eq_true rfl) (Val.load 0 rfl ag24 rfl rfl) ?_
      | refine TL.val rfl rfl (Nat.le_of_ble_eq_true rfl) (Val.load 1 rfl ag24 rfl rfl) ?_
      | refine TL.val rfl rfl (Nat.le_of_ble_eq_true rfl) (Val.load 2 rfl ag24 rfl rfl) ?_
      | refine TL.val rfl rfl (Nat.le_of_ble_eq_true rfl) (Val.load 3 rfl ag24 rfl rfl) ?_
      | refine TL.val rfl rfl (Nat.le_of_ble_eq_true rfl) (Val.load 4 rfl ag24 rfl rfl) ?_
      | refine TL.val rfl rfl (Nat.le_of_ble_eq_true rfl) (Val.load 5 rfl ag24 rfl rfl) ?_
    refine TL.val rfl rfl (Nat.le_of_ble_eq_true rfl) (Val.fieldAddr rfl fl185_0 sz182 rfl) ?_
    refine TL.val rfl rfl (Nat.le_of_ble_eq_true rfl) (Val.indexAddrA (i := 1) rfl rfl ar182 sz24 rfl (by first | decide | omega) rfl) ?_
    first
      | refine TL.val rfl rfl (Nat.le_of_ble_eq_true rfl) (Val.load 0 rfl ag24 rfl rfl) ?_
      | refine TL.val rfl rfl (Nat.le_of_ble_eq_true rfl) (Val.load 1 rfl ag24 rfl rfl) ?_
      | refine TL.val rfl rfl (Nat.le_of_ble_eq_true rfl) (Val.load 2 rfl ag24 rfl rfl) ?_
      | refine TL.val rfl rfl (Nat.le_of_ble_eq_true rfl) (Val.load 3 rfl ag24 rfl rfl) ?_
      | refine TL.val rfl rfl (Nat.le_of_ble_eq_true rfl) (Val.load 4 rfl ag24 rfl rfl) ?_
      | refine TL.val rfl rfl (Nat.le_of_ble_eq_true rfl) (Val.load 5 rfl ag24 rfl rfl) ?_
    refine TL.val rfl rfl (Nat.le_of_ble_eq_true rfl) (Val.xor rfl rfl rfl) ?_
    refine TL.val rfl rfl (Nat.le_of_ble_eq_true rfl) (Val.fieldAddr rfl fl185_0 sz182 rfl) ?_
    refine TL.val rfl rfl (Nat.le_of_ble_eq_true rfl) (Val.indexAddrA (i := 2) rfl rfl ar182 sz24 rfl (by first | decide | omega) rfl) ?_
    first
      | refine TL.val rfl rfl (Nat.le_of_ble_eq_true rfl) (Val.load 0 rfl ag24 rfl rfl) ?_
      | refine TL.val rfl rfl (Nat.le_of_ble_eq_true rfl) (Val.load 1 rfl ag24 rfl rfl) ?_
      | refine TL.val rfl rfl (Nat.le_of_ble_eq_true rfl) (Val.load 2 rfl ag24 rfl rfl) ?_
      | refine TL.val rfl rfl (Nat.le_of_ble_eq_true rfl) (Val.load 3 rfl ag24 rfl rfl) ?_
      | refine TL.val rfl rfl (Nat.le_of_ble_eq_true rfl) (Val.load 4 rfl ag24 rfl rfl) ?_
      | refine TL.val rfl rfl (Nat.le_of_ble_eq_true rfl) (Val.load 5 rfl ag24 rfl rfl) ?_
    refine TL.val rfl rfl (Nat.le_of_ble_eq_true rfl) (Val.xor rfl rfl rfl) ?_
    refine TL.val rfl rfl (Nat.le_of_ble_eq_true rfl) (Val.fieldAddr rfl fl185_0 sz182 rfl) ?_
    refine TL.val rfl rfl (Nat.le_of_ble_eq_true rfl) (Val.indexAddrA (i := 3) rfl rfl ar182 sz24 rfl (by first | decide | omega) rfl) ?_
    first
      | refine TL.val rfl rfl (Nat.le_of_ble_eq_true rfl) (Val.load 0 rfl ag24 rfl rfl) ?_
      | refine TL.val rfl rfl (Nat.le_of_ble_eq_true rfl) (Val.load 1 rfl ag24 rfl rfl) ?_
      | refine TL.val rfl rfl (Nat.le_of_ble_eq_true rfl) (Val.load 2 rfl ag24 rfl rfl) ?_
      | refine TL.val rfl rfl (Nat.le_of_ble_eq_true rfl) (Val.load 3 rfl ag24 rfl rfl) ?_
      | refine TL.val rfl rfl (Nat.le_of_ble_eq_true rfl) (Val.load 4 rfl ag24 rfl rfl) ?_
      | refine TL.val rfl rfl (Nat.le_of_ble_eq_true rfl) (Val.load 5 rfl ag24 rfl rfl) ?_
    refine TL.val rfl rfl (Nat.le_of_ble_eq_true rfl) (Val.xor rfl rfl rfl) ?_
    refine TL.val rfl rfl (Nat.le_of_ble_eq_true rfl) (Val.assign rfl) ?_
    refine TL.nil ?_
    refine AtX.then ?_
    refine TC.env (E' := [(2, _)]) (Sub.cons rfl (Sub.nil _)) ?_
    refine TC.ret1 (fn := Try.f104) (fun _ _ h => h) rfl (RV.tmp rfl) (M' := hobj b w A d.length c k :: M) (by repeat (first | exact ro_refl | exact ro_pre | refine ro_tail ?_ | refine ro_app ?_)) ?_
    rw [endW_eq hv]; exact ⟨rfl, rfl⟩

/-- quorumite/sip.Sum -/
theorem sipSum_fn (k : K2) (l : List UInt8) (A : Option Addr) (n c : Nat) (M : Hp) (hA : RdS M A (bv l)) (hn : n = l.length) (hl : l.length ≤ 1000) : FnC Try.prog 79 #[.agg #[.int .u64 k.a, .int .u64 k.b], .slice A n c] M (fun v M' => v = .int .u64 (sipSum k.a k.b l) ∧ M = M') := by
  subst hn
  refine FnC.intro Try.func79 rfl 13 rfl (by simp) (fun z => ?_)
  refine TC.env (E' := [(0, _), (1, _)]) (Sub.cons rfl (Sub.cons rfl (Sub.nil _))) ?_
  refine TC.seq ?_
  refine TC.region ?_
  refine TL.does (some 2) rfl rfl rfl (Does.box rfl rfl) ?_
  rintro _ _ ⟨b1, rfl, rfl⟩
  refine TL.val rfl rfl (Nat.le_of_ble_eq_true rfl) (Val.assign rfl) ?_
  refine TL.nil ?_
  refine AtX.then ?_
  refine TC.env (E' := [(1, _), (2, _), (4, _)]) (Sub.cons rfl (Sub.cons rfl (Sub.cons rfl (Sub.nil _)))) ?_
  refine TC.seq ?_
  refine TC.region ?_
  first
    | refine TL.val rfl rfl (Nat.le_of_ble_eq_true rfl) (Val.loadAgg 0 rfl ag69 sz69 rfl rfl rfl) ?_
    | refine TL.val rfl rfl (Nat.le_of_ble_eq_true rfl) (Val.loadAgg 1 rfl ag69 sz69 rfl rfl rfl) ?_
    | refine TL.val rfl rfl (Nat.le_of_ble_eq_true rfl) (Val.loadAgg 2 rfl ag69 sz69 rfl rfl rfl) ?_
    | refine TL.val rfl rfl (Nat.le_of_ble_eq_true rfl) (Val.loadAgg 3 rfl ag69 sz69 rfl rfl rfl) ?_
    | refine TL.val rfl rfl (Nat.le_of_ble_eq_true rfl) (Val.loadAgg 4 rfl ag69 sz69 rfl rfl rfl) ?_
    | refine TL.val rfl rfl (Nat.le_of_ble_eq_true rfl) (Val.loadAgg 5 rfl ag69 sz69 rfl rfl rfl) ?_
  refine TL.does (some 7) rfl rfl rfl (Does.callF go102 rfl (New_fn k _)) ?_
  rintro _ _ ⟨b5, rfl, rfl⟩
  refine TL.val rfl rfl (Nat.le_of_ble_eq_true rfl) (Val.assign rfl) ?_
  refine TL.nil ?_
  refine AtX.then ?_
  refine TC.env (E' := [(1, _), (4, _), (5, _)]) (Sub.cons rfl (Sub.cons rfl (Sub.cons rfl (Sub.nil _)))) ?_
  refine TC.seq ?_
  refine TC.region ?_
  refine TL.val rfl rfl (Nat.le_of_ble_eq_true rfl) (Val.move rfl) ?_
  refine TL.val rfl rfl (Nat.le_of_ble_eq_true rfl) (Val.move rfl) ?_
  refine TL.does (some 10) rfl rfl rfl (Does.callF go103 rfl (Write_fn b5 (keyW k.a k.b) l A _ c _ (hA.cons _) rfl hl)) ?_
  rintro _ _ ⟨σ, A1, cp, rfl, hR, rfl⟩
  refine TL.nil ?_
  refine AtX.then ?_
  refine TC.env (E' := [(4, _), (5, _)]) (Sub.cons rfl (Sub.cons rfl (Sub.nil _))) ?_
  refine TC.seq ?_
  refine TC.region ?_
  refine TL.val rfl rfl (Nat.le_of_ble_eq_true rfl) (Val.move rfl) ?_
  refine TL.does (some 12) rfl rfl rfl (Does.callF go104 rfl (HSum_fn b5 _ _ _ _ _ _ _ hR (by rw [List.length_drop]) (by rw [List.length_drop]; omega))) ?_
  rintro _ _ ⟨rfl, rfl⟩
  rw [lastB_eq]
  refine TL.val rfl rfl (Nat.le_of_ble_eq_true rfl) (Val.assign rfl) ?_
  refine TL.nil ?_
  refine AtX.then ?_
  refine TC.env (E' := [(4, _)]) (Sub.cons rfl (Sub.nil _)) ?_
  refine TC.ret1 (fn := Try.f79) (fun _ _ h => h) rfl (RV.tmp rfl) (M' := M) (fun w h => by have h := h.drop; exact (ro_app (ro_tail ro_refl)) w h) ?_
  exact ⟨rfl, rfl⟩

end Go.Proofs.Ytphoapajlcaoeaa
