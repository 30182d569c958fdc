/- walks -/
import Derived.Test.YtphoapajlcaoeaaA4
import Derived.Test.YtphoapajlcaoeaaES5
import Derived.Test.YtphoapajlcaoeaaE9d
set_option linter.unusedVariables false
set_option linter.unusedSimpArgs false
set_option maxRecDepth 100000
set_option maxHeartbeats 4000000
namespace Go.Proofs.Ytphoapajlcaoeaa
open Go Go.X
/-- slices.Grow[[]byte,byte] -/
theorem Grow_fn (n : Nat) (M : Hp) (hn : n ≤ 1000) : FnC Try.prog 113 #[.slice none 0 0, .int .i64 n] M (fun v M' => ∃ σ, v = .slice (slA σ) 0 (slC σ) ∧ slOk σ 1 0 [] ∧ M' = slH σ 5 [] ++ M) := by
  refine FnC.intro Try.func113 rfl 27 rfl (by simp) (fun z => ?_)
  refine TC.env (E' := [(0, _), (1, _)]) (Sub.cons rfl (Sub.cons rfl (Sub.nil _))) ?_
  refine TC.seq ?_
  refine TC.region ?_
  refine TL.val rfl rfl (Nat.le_of_ble_eq_true rfl) (Val.assign rfl) ?_
  refine TL.nil ?_
  refine AtX.then ?_
  refine TC.seq ?_
  refine TC.seq ?_
  refine TC.region ?_
  refine TL.val rfl rfl (Nat.le_of_ble_eq_true rfl) (Val.move rfl) ?_
  refine TL.val rfl rfl (Nat.le_of_ble_eq_true rfl) (Val.lss rfl rfl) ?_
  refine TL.nil ?_
  refine AtX.then ?_
  refine TC.env (E' := [(0, _), (1, _), (4, _), (6, _)]) (Sub.cons rfl (Sub.cons rfl (Sub.cons rfl (Sub.cons rfl (Sub.nil _))))) ?_
  first | refine TC.condP rfl (fun c1 => ?_) (fun c1 => ?_) | refine TC.condN rfl (fun c1 => ?_) (fun c1 => ?_) | refine TC.condB rfl (fun c1 => ?_) (fun c1 => ?_) | refine TC.cond rfl (fun c1 => ?_) (fun c1 => ?_)
  · skip
    omega
  · skip
    refine TC.env (E' := [(0, _), (1, _), (4, _)]) (Sub.cons rfl (Sub.cons rfl (Sub.cons rfl (Sub.nil _)))) ?_
    refine TC.skip ?_
    refine AtX.then ?_
    refine TC.env (E' := [(0, _), (1, _), (4, _)]) (Sub.cons rfl (Sub.cons rfl (Sub.cons rfl (Sub.nil _)))) ?_
    refine TC.seq ?_
    refine TC.seq ?_
    refine TC.region ?_
    refine TL.val rfl rfl (Nat.le_of_ble_eq_true rfl) (Val.move rfl) ?_
    refine TL.val rfl rfl (Nat.le_of_ble_eq_true rfl) (Val.move rfl) ?_
    refine TL.val rfl rfl (Nat.le_of_ble_eq_true rfl) (Val.capSl rfl rfl sl37) ?_
    refine TL.val rfl rfl (Nat.le_of_ble_eq_true rfl) (Val.move rfl) ?_
    refine TL.val rfl rfl (Nat.le_of_ble_eq_true rfl) (Val.lenSl rfl rfl sl37) ?_
    refine TL.val rfl rfl (Nat.le_of_ble_eq_true rfl) (Val.sub rfl rfl (r := 0) (by decide)) ?_
    refine TL.val rfl rfl (Nat.le_of_ble_eq_true rfl) (Val.sub rfl rfl (r := (n : Int)) (by rw [w_i64 (by omega) (by omega)]; omega)) ?_
    refine TL.val rfl rfl (Nat.le_of_ble_eq_true rfl) (Val.assign rfl) ?_
    refine TL.nil ?_
    refine AtX.then ?_
    refine TC.env (E' := [(0, _), (1, _), (4, _)]) (Sub.cons rfl (Sub.cons rfl (Sub.cons rfl (Sub.nil _)))) ?_
    refine TC.seq ?_
    refine TC.region ?_
    refine TL.val rfl rfl (Nat.le_of_ble_eq_true rfl) (Val.move rfl) ?_
    refine TL.val rfl rfl (Nat.le_of_ble_eq_true rfl) (Val.gtr rfl rfl) ?_
    refine TL.nil ?_
    refine AtX.then ?_
    refine TC.env (E' := [(0, _), (1, _), (4, _), (16, _)]) (Sub.cons rfl (Sub.cons rfl (Sub.cons rfl (Sub.cons rfl (Sub.nil _))))) ?_
    first | refine TC.condP rfl (fun c2 => ?_) (fun c2 => ?_) | refine TC.condN rfl (fun c2 => ?_) (fun c2 => ?_) | refine TC.condB rfl (fun c2 => ?_) (fun c2 => ?_) | refine TC.cond rfl (fun c2 => ?_) (fun c2 => ?_)
    · skip
      refine TC.env (E' := [(0, _), (1, _), (4, _)]) (Sub.cons rfl (Sub.cons rfl (Sub.cons rfl (Sub.nil _)))) ?_
      refine TC.region ?_
      refine TL.val rfl rfl (Nat.le_of_ble_eq_true rfl) (Val.move rfl) ?_
      refine TL.val rfl rfl (Nat.le_of_ble_eq_true rfl) (Val.move rfl) ?_
      refine TL.val rfl rfl (Nat.le_of_ble_eq_true rfl) (Val.capSl rfl rfl sl37) ?_
      refine TL.val rfl rfl (Nat.le_of_ble_eq_true rfl) (Val.sliceTo (j := 0) rfl sl37 sz5 rfl rfl (by omega)) ?_
      refine TL.val rfl rfl (Nat.le_of_ble_eq_true rfl) (Val.move rfl) ?_
      refine TL.does (some 22) rfl rfl rfl (Does.appendS (xs := []) (ys := bv (List.replicate n 0)) none M ro_refl rfl rfl sl37 sz5 by5 ze5 rfl (slOk_nil 1) (srcZ ui3 (by omega)) (by simp) (bv_one _) (by omega) (by omega)) ?_
      rintro _ _ ⟨σ, rfl, hok, rfl⟩
      rw [List.nil_append] at hok ⊢
      rw [Nat.zero_add n] at hok ⊢
      refine TL.val rfl rfl (Nat.le_of_ble_eq_true rfl) (Val.move rfl) ?_
      refine TL.val rfl rfl (Nat.le_of_ble_eq_true rfl) (Val.lenSl rfl rfl sl37) ?_
      refine TL.val rfl rfl (Nat.le_of_ble_eq_true rfl) (Val.sliceTo (j := 0) rfl sl37 sz5 rfl rfl (by omega)) ?_
      refine TL.val rfl rfl (Nat.le_of_ble_eq_true rfl) (Val.assign rfl) ?_
      refine TL.nil ?_
      refine AtX.then ?_
      refine TC.env (E' := [(0, _), (4, _)]) (Sub.cons rfl (Sub.cons rfl (Sub.nil _))) ?_
      refine TC.seq ?_
      refine TC.region ?_
      refine TL.val rfl rfl (Nat.le_of_ble_eq_true rfl) (Val.move rfl) ?_
      refine TL.val rfl rfl (Nat.le_of_ble_eq_true rfl) (Val.assign rfl) ?_
      refine TL.nil ?_
      refine AtX.then ?_
      refine TC.env (E' := [(4, _)]) (Sub.cons rfl (Sub.nil _)) ?_
      refine TC.ret1 (fn := Try.f113) (fun _ _ h => h) rfl (RV.tmp rfl) (fun _ h => h) ?_
      obtain ⟨b, c, sp, rfl, hc⟩ := hok.some (by omega)
      exact ⟨some (b, c, bv (List.replicate n 0) ++ sp), rfl, ⟨rfl, by simpa using hc⟩, by simp [slH]⟩
    · skip
      refine TC.env (E' := [(0, _), (4, _)]) (Sub.cons rfl (Sub.cons rfl (Sub.nil _))) ?_
      refine TC.skip ?_
      refine AtX.then ?_
      refine TC.env (E' := [(0, _), (4, _)]) (Sub.cons rfl (Sub.cons rfl (Sub.nil _))) ?_
      refine TC.seq ?_
      refine TC.region ?_
      refine TL.val rfl rfl (Nat.le_of_ble_eq_true rfl) (Val.move rfl) ?_
      refine TL.val rfl rfl (Nat.le_of_ble_eq_true rfl) (Val.assign rfl) ?_
      refine TL.nil ?_
      refine AtX.then ?_
      refine TC.env (E' := [(4, _)]) (Sub.cons rfl (Sub.nil _)) ?_
      refine TC.ret1 (fn := Try.f113) (fun _ _ h => h) rfl (RV.tmp rfl) (fun _ h => h) ?_
      exact ⟨none, rfl, slOk_nil 1, rfl⟩

/-- slices.Concat[[]byte,byte] -/
theorem Concat_fn (q : List Bs) (A : Option Addr) (n c : Nat) (M : Hp) (hq : RdS M A (q.map bsV)) (hn : n = q.length) (hs : ∀ x ∈ q, RdS M x.1 (bv x.2.1)) (hl : (cat q).length ≤ 1000) (hc : q.length ≤ 1000) : FnC Try.prog 101 #[.slice A n c] M (fun v M' => ∃ σ, v = .slice (slA σ) (cat q).length (slC σ) ∧ slOk σ 1 (cat q).length (bv (cat q)) ∧ M' = slH σ 5 (bv (cat q)) ++ M) := by
  subst hn
  refine FnC.intro Try.func101 rfl 36 rfl (by simp) (fun z => ?_)
  refine TC.env (E' := [(0, _)]) (Sub.cons rfl (Sub.nil _)) ?_
  refine TC.seq ?_
  refine TC.region ?_
  refine TL.val rfl rfl (Nat.le_of_ble_eq_true rfl) (Val.assign rfl) ?_
  refine TL.nil ?_
  refine AtX.then ?_
  refine TC.seq ?_
  refine TC.region ?_
  refine TL.val rfl rfl (Nat.le_of_ble_eq_true rfl) (Val.assign rfl) ?_
  refine TL.nil ?_
  refine AtX.then ?_
  refine TC.seq ?_
  refine TC.seq ?_
  refine TC.region ?_
  refine TL.val rfl rfl (Nat.le_of_ble_eq_true rfl) (Val.move rfl) ?_
  refine TL.val rfl rfl (Nat.le_of_ble_eq_true rfl) (Val.lenSl rfl rfl sl180) ?_
  refine TL.val rfl rfl (Nat.le_of_ble_eq_true rfl) (Val.move rfl) ?_
  refine TL.nil ?_
  refine AtX.then ?_
  refine TC.block ?_
  refine TC.loop (ι := Nat) (fun k => [(0, .slice A q.length c), (3, .int .i64 ((cat (q.take k)).length : Nat)), (9, .slice A q.length c), (10, .int .i64 (q.length : Nat)), (11, .int .i64 (k : Nat))]) (fun _ => M) (fun k => k ≤ q.length) (fun k => q.length - k) 0 ?_ (Sub.cons rfl (Sub.cons rfl (Sub.cons rfl (Sub.cons rfl (Sub.cons rfl (Sub.nil _)))))) (fun _ h => h) ?_
  · exact Nat.zero_le _
  intro k hk
  refine TC.seq ?_
  refine TC.region ?_
  refine TL.val rfl rfl (Nat.le_of_ble_eq_true rfl) (Val.lss rfl rfl) ?_
  refine TL.nil ?_
  refine AtX.then ?_
  refine TC.seq ?_
  first | refine TC.condP rfl (fun c1 => ?_) (fun c1 => ?_) | refine TC.condN rfl (fun c1 => ?_) (fun c1 => ?_) | refine TC.condB rfl (fun c1 => ?_) (fun c1 => ?_) | refine TC.cond rfl (fun c1 => ?_) (fun c1 => ?_)
  · skip
    refine TC.skip ?_
    refine AtX.then ?_
    refine TC.seq ?_
    refine TC.block ?_
    refine TC.seq ?_
    have hlt : k < q.length := by omega
    obtain ⟨x, hx⟩ : ∃ x, q[k]? = some x := ⟨_, List.getElem?_eq_getElem hlt⟩
    have hle := cat_le q (k + 1)
    have hle0 := cat_le q k
    obtain ⟨bq, oq, rfl, hR⟩ := RdS.get hq (by simp; omega)
    have hxl : (cat (q.take (k + 1))).length = (cat (q.take k)).length + x.2.1.length := by rw [catS hx, List.length_append]
    refine TC.region ?_
    refine TL.val rfl rfl (Nat.le_of_ble_eq_true rfl) (Val.indexAddr (i := k) (r := oq + k) rfl rfl sl180 sz37 rfl hlt (by omega)) ?_
    refine TL.val rfl rfl (Nat.le_of_ble_eq_true rfl) (Val.loadRd (j := k) rfl ag37 hR rfl (map_get hx)) ?_
    refine TL.val rfl rfl (Nat.le_of_ble_eq_true rfl) (Val.assign rfl) ?_
    refine TL.nil ?_
    refine AtX.then ?_
    refine TC.seq ?_
    refine TC.region ?_
    refine TL.val rfl rfl (Nat.le_of_ble_eq_true rfl) (Val.move rfl) ?_
    refine TL.val rfl rfl (Nat.le_of_ble_eq_true rfl) (Val.move rfl) ?_
    refine TL.val rfl rfl (Nat.le_of_ble_eq_true rfl) (Val.lenSl rfl rfl sl37) ?_
    refine TL.val rfl rfl (Nat.le_of_ble_eq_true rfl) (Val.add rfl rfl (r := ((cat (q.take (k + 1))).length : Nat)) (by rw [w_i64 (by omega) (by omega)]; omega)) ?_
    refine TL.val rfl rfl (Nat.le_of_ble_eq_true rfl) (Val.assign rfl) ?_
    refine TL.nil ?_
    refine AtX.then ?_
    refine TC.seq ?_
    refine TC.region ?_
    refine TL.val rfl rfl (Nat.le_of_ble_eq_true rfl) (Val.move rfl) ?_
    refine TL.val rfl rfl (Nat.le_of_ble_eq_true rfl) (Val.lss rfl rfl) ?_
    refine TL.nil ?_
    refine AtX.then ?_
    first | refine TC.condP rfl (fun c2 => ?_) (fun c2 => ?_) | refine TC.condN rfl (fun c2 => ?_) (fun c2 => ?_) | refine TC.condB rfl (fun c2 => ?_) (fun c2 => ?_) | refine TC.cond rfl (fun c2 => ?_) (fun c2 => ?_)
    · skip
      omega
    · skip
      refine TC.skip ?_
      refine AtX.blk ?_
      refine AtX.then ?_
      refine TC.region ?_
      first
        | refine TL.val rfl rfl (Nat.le_of_ble_eq_true rfl) (Val.add rfl rfl (w_i64 (by omega) (by omega))) ?_
        | refine TL.val rfl rfl (Nat.le_of_ble_eq_true rfl) (Val.add rfl rfl rfl) ?_
      refine TL.val rfl rfl (Nat.le_of_ble_eq_true rfl) (Val.move rfl) ?_
      refine TL.nil ?_
      refine AtX.round (k + 1) ?_ ?_ (Sub.cons rfl (Sub.cons rfl (Sub.cons rfl (Sub.cons rfl (Sub.cons rfl (Sub.nil _)))))) (fun _ h => h)
      · omega
      · omega
  · skip
    refine TC.exit ?_
    refine AtX.seqX ?_
    refine AtX.seqX ?_
    refine AtX.hit ?_
    refine AtX.then ?_
    refine TC.env (E' := [(0, _), (3, _)]) (Sub.cons rfl (Sub.cons rfl (Sub.nil _))) ?_
    refine TC.seq ?_
    have hkl : k = q.length := by omega
    subst hkl
    rw [cat_all]
    refine TC.region ?_
    refine TL.val rfl rfl (Nat.le_of_ble_eq_true rfl) (Val.move rfl) ?_
    refine TL.does (some 24) rfl rfl rfl (Does.callF go113 rfl (Grow_fn (cat q).length _ (by omega))) ?_
    rintro _ _ ⟨σ0, rfl, hok0, rfl⟩
    refine TL.val rfl rfl (Nat.le_of_ble_eq_true rfl) (Val.assign rfl) ?_
    refine TL.nil ?_
    refine AtX.then ?_
    refine TC.env (E' := [(0, _), (6, _)]) (Sub.cons rfl (Sub.cons rfl (Sub.nil _))) ?_
    refine TC.seq ?_
    refine TC.seq ?_
    refine TC.region ?_
    refine TL.val rfl rfl (Nat.le_of_ble_eq_true rfl) (Val.move rfl) ?_
    refine TL.val rfl rfl (Nat.le_of_ble_eq_true rfl) (Val.lenSl rfl rfl sl180) ?_
    refine TL.val rfl rfl (Nat.le_of_ble_eq_true rfl) (Val.move rfl) ?_
    refine TL.nil ?_
    refine AtX.then ?_
    refine TC.env (E' := [(6, _), (25, _), (26, _), (27, _)]) (Sub.cons rfl (Sub.cons rfl (Sub.cons rfl (Sub.cons rfl (Sub.nil _))))) ?_
    refine TC.block ?_
    refine TC.loop (ι := (Nat × Sl)) (fun i => [(6, .slice (slA i.2) (cat (q.take i.1)).length (slC i.2)), (25, .slice A q.length c), (26, .int .i64 (q.length : Nat)), (27, .int .i64 (i.1 : Nat))]) (fun i => slH i.2 5 (bv (cat (q.take i.1))) ++ M) (fun i => i.1 ≤ q.length ∧ slOk i.2 1 (cat (q.take i.1)).length (bv (cat (q.take i.1)))) (fun i => q.length - i.1) (0, σ0) ?_ (Sub.cons rfl (Sub.cons rfl (Sub.cons rfl (Sub.cons rfl (Sub.nil _))))) (fun _ h => h) ?_
    · exact ⟨Nat.zero_le _, hok0⟩
    rintro ⟨k, σ⟩ ⟨hk, hok⟩
    dsimp only at hk hok ⊢
    refine TC.seq ?_
    refine TC.region ?_
    refine TL.val rfl rfl (Nat.le_of_ble_eq_true rfl) (Val.lss rfl rfl) ?_
    refine TL.nil ?_
    refine AtX.then ?_
    refine TC.seq ?_
    first | refine TC.condP rfl (fun c3 => ?_) (fun c3 => ?_) | refine TC.condN rfl (fun c3 => ?_) (fun c3 => ?_) | refine TC.condB rfl (fun c3 => ?_) (fun c3 => ?_) | refine TC.cond rfl (fun c3 => ?_) (fun c3 => ?_)
    · skip
      refine TC.skip ?_
      refine AtX.then ?_
      refine TC.seq ?_
      refine TC.block ?_
      refine TC.seq ?_
      have hlt : k < q.length := by omega
      obtain ⟨x, hx⟩ : ∃ x, q[k]? = some x := ⟨_, List.getElem?_eq_getElem hlt⟩
      have hle := cat_le q (k + 1)
      have hle0 := cat_le q k
      obtain ⟨bq, oq, rfl, hR⟩ := RdS.get hq (by simp; omega)
      have hxl : (cat (q.take (k + 1))).length = (cat (q.take k)).length + x.2.1.length := by rw [catS hx, List.length_append]
      refine TC.region ?_
      refine TL.val rfl rfl (Nat.le_of_ble_eq_true rfl) (Val.indexAddr (i := k) (r := oq + k) rfl rfl sl180 sz37 rfl hlt (by omega)) ?_
      refine TL.val rfl rfl (Nat.le_of_ble_eq_true rfl) (Val.loadRd (j := k) rfl ag37 (hR.app _) rfl (map_get hx)) ?_
      refine TL.val rfl rfl (Nat.le_of_ble_eq_true rfl) (Val.assign rfl) ?_
      refine TL.nil ?_
      refine AtX.then ?_
      refine TC.region ?_
      refine TL.val rfl rfl (Nat.le_of_ble_eq_true rfl) (Val.move rfl) ?_
      refine TL.val rfl rfl (Nat.le_of_ble_eq_true rfl) (Val.move rfl) ?_
      refine TL.does (some 33) rfl rfl rfl (Does.appendS (xs := bv (cat (q.take k))) (ys := bv x.2.1) σ M ro_refl rfl rfl sl37 sz5 by5 ze5 rfl hok (srcB us37 ((hs x (List.mem_of_getElem? hx)).app _)) (by simp) (bv_one _) (by omega) (by omega)) ?_
      rintro _ _ ⟨σ1, rfl, hok1, rfl⟩
      refine TL.val rfl rfl (Nat.le_of_ble_eq_true rfl) (Val.assign rfl) ?_
      refine TL.nil ?_
      refine AtX.blk ?_
      refine AtX.then ?_
      refine TC.region ?_
      first
        | refine TL.val rfl rfl (Nat.le_of_ble_eq_true rfl) (Val.add rfl rfl (w_i64 (by omega) (by omega))) ?_
        | refine TL.val rfl rfl (Nat.le_of_ble_eq_true rfl) (Val.add rfl rfl rfl) ?_
      refine TL.val rfl rfl (Nat.le_of_ble_eq_true rfl) (Val.move rfl) ?_
      refine TL.nil ?_
      refine AtX.round (i := (k, σ)) (k + 1, σ1) ?_ ?_ (Sub.cons (by rw [catS hx, List.length_append]; rfl) (Sub.cons rfl (Sub.cons rfl (Sub.cons rfl (Sub.nil _))))) (fun w h => by dsimp only; rw [catS hx, bv_append]; exact h)
      · exact ⟨by omega, by dsimp only; rw [catS hx, List.length_append, bv_append]; exact hok1⟩
      · show q.length - (k + 1) < q.length - k; omega
    · skip
      refine TC.exit ?_
      refine AtX.seqX ?_
      refine AtX.seqX ?_
      refine AtX.hit ?_
      refine AtX.then ?_
      refine TC.env (E' := [(6, _)]) (Sub.cons rfl (Sub.nil _)) ?_
      refine TC.seq ?_
      have hkl : k = q.length := by omega
      subst hkl
      rw [cat_all] at hok ⊢
      refine TC.region ?_
      refine TL.val rfl rfl (Nat.le_of_ble_eq_true rfl) (Val.move rfl) ?_
      refine TL.val rfl rfl (Nat.le_of_ble_eq_true rfl) (Val.assign rfl) ?_
      refine TL.nil ?_
      refine AtX.then ?_
      refine TC.env (E' := [(2, _)]) (Sub.cons rfl (Sub.nil _)) ?_
      refine TC.ret1 (fn := Try.f101) (fun _ _ h => h) rfl (RV.tmp rfl) (fun _ h => h) ?_
      exact ⟨σ, rfl, hok, rfl⟩

/-- quorumite/mac.Derive -/
theorem Derive_fn (k : K2) (lab : List UInt8) (n : Int) (M : Hp) (hlab : lab.length ≤ 100) : FnC Try.prog 76 #[.agg #[.int .u64 k.a, .int .u64 k.b], .string (ofL lab), .int .u64 n] M (fun v M' => v = .agg #[.int .u64 (deriveK k lab n).a, .int .u64 (deriveK k lab n).b] ∧ M = M') := by
  refine FnC.intro Try.func76 rfl 28 rfl (by simp) (fun z => ?_)
  refine TC.env (E' := [(0, _), (1, _), (2, _)]) (Sub.cons rfl (Sub.cons rfl (Sub.cons rfl (Sub.nil _)))) ?_
  refine TC.seq ?_
  refine TC.region ?_
  refine TL.does (some 3) rfl rfl rfl (Does.box rfl rfl) ?_
  rintro _ _ ⟨b1, rfl, rfl⟩
  refine TL.does (some 6) rfl rfl rfl (Does.alloc ze69 rfl) ?_
  rintro _ _ ⟨b2, rfl, rfl⟩
  refine TL.nil ?_
  refine AtX.then ?_
  refine TC.env (E' := [(1, _), (2, _), (3, _), (6, _)]) (Sub.cons rfl (Sub.cons rfl (Sub.cons rfl (Sub.cons rfl (Sub.nil _))))) ?_
  refine TC.seq ?_
  refine TC.region ?_
  refine TL.does (some 7) rfl rfl rfl (Does.alloc ze69 rfl) ?_
  rintro _ _ ⟨b3, rfl, rfl⟩
  refine TL.nil ?_
  refine AtX.then ?_
  refine TC.env (E' := [(1, _), (2, _), (3, _), (6, _), (7, _)]) (Sub.cons rfl (Sub.cons rfl (Sub.cons rfl (Sub.cons rfl (Sub.cons rfl (Sub.nil _)))))) ?_
  refine TC.seq ?_
  refine TC.seq ?_
  refine TC.region ?_
  refine TL.val rfl rfl (Nat.le_of_ble_eq_true rfl) (Val.move rfl) ?_
  refine TL.nil ?_
  refine AtX.then ?_
  refine TC.env (E' := [(1, _), (2, _), (3, _), (6, _), (7, _), (9, _)]) (Sub.cons rfl (Sub.cons rfl (Sub.cons rfl (Sub.cons rfl (Sub.cons rfl (Sub.cons rfl (Sub.nil _))))))) ?_
  refine TC.block ?_
  refine TC.loop (ι := Nat) (fun i => [(1, .string (ofL lab)), (2, .int .u64 n), (3, .pointer (some ⟨b1, 0, none⟩)), (6, .pointer (some ⟨b2, 0, none⟩)), (7, .pointer (some ⟨b3, 0, none⟩)), (9, .int .i64 (i : Nat))]) (fun i => (b3, .cells (dR k lab n i).toArray 69 (0, 0)) :: (b2, .cells #[.int .u64 0, .int .u64 0] 69 (0, 0)) :: ((b1, .cells #[.int .u64 k.a, .int .u64 k.b] 69 (0, 0)) :: M)) (fun i => i ≤ 2) (fun i => 2 - i) 0 ?_ (Sub.cons rfl (Sub.cons rfl (Sub.cons rfl (Sub.cons rfl (Sub.cons rfl (Sub.cons rfl (Sub.nil _))))))) (fun w h => by rw [dR_0]; exact h) ?_
  · exact Nat.zero_le _
  intro i hi
  refine TC.seq ?_
  refine TC.region ?_
  refine TL.val rfl rfl (Nat.le_of_ble_eq_true rfl) (Val.lss rfl rfl) ?_
  refine TL.nil ?_
  refine AtX.then ?_
  refine TC.seq ?_
  first | refine TC.condP rfl (fun c1 => ?_) (fun c1 => ?_) | refine TC.condN rfl (fun c1 => ?_) (fun c1 => ?_) | refine TC.condB rfl (fun c1 => ?_) (fun c1 => ?_) | refine TC.cond rfl (fun c1 => ?_) (fun c1 => ?_)
  · skip
    refine TC.skip ?_
    refine AtX.then ?_
    refine TC.seq ?_
    refine TC.block ?_
    refine TC.seq ?_
    refine TC.region ?_
    refine TL.val rfl rfl (Nat.le_of_ble_eq_true rfl) (Val.move rfl) ?_
    refine TL.val rfl rfl (Nat.le_of_ble_eq_true rfl) (Val.assign rfl) ?_
    refine TL.nil ?_
    refine AtX.then ?_
    have hi2 : i < 2 := by omega
    refine TC.drawL ((b1, .cells #[.int .u64 k.a, .int .u64 k.b] 69 (0, 0)) :: M) mixed 15 ?_
    refine TA.tk 0 1 rfl rfl rfl (Val.move rfl) ?_
    first
      | refine TA.tk 1 3 rfl rfl rfl (Val.loadAgg 0 rfl ag69 sz69 rfl rfl rfl) ?_
      | refine TA.tk 1 3 rfl rfl rfl (Val.loadAgg 1 rfl ag69 sz69 rfl rfl rfl) ?_
      | refine TA.tk 1 3 rfl rfl rfl (Val.loadAgg 2 rfl ag69 sz69 rfl rfl rfl) ?_
    refine TA.tk 2 7 rfl rfl rfl (Val.move rfl) ?_
    refine TA.tk 4 23 rfl rfl rfl (Val.move rfl) ?_
    refine TA.tk 5 55 rfl rfl rfl (Val.add rfl rfl (r := ((i + 1 : Nat) : Int)) (by rw [w_i64 (by omega) (by omega)]; push_cast; rfl)) ?_
    refine TA.tk 6 119 rfl rfl rfl (Val.convI rfl iu3 in5 w_b8) ?_
    refine TA.tk 8 375 rfl rfl rfl (Val.move rfl) ?_
    refine TA.three 3 7 9 (by kernel_rfl) ?_ ?_ ?_
    · skip
      refine TO.dz 383 (some 15) rfl rfl rfl rfl (Does.s2bL rfl un9 us37 ui5) ?_
      rintro _ _ ⟨bL, cL, spL, fzL, rfl, rfl⟩
      refine roK ?_
      refine TA.two 7 9 (by kernel_rfl) ?_ ?_
      · skip
        refine TO.dz 511 (some 19) rfl rfl rfl rfl (Does.buildSlice sl37 sz5 ze5 (by decide) (by decide) rfl rfl rfl) ?_
        rintro _ _ ⟨bI, rfl, rfl⟩
        refine roK ?_
        refine TA.one 9 (by kernel_rfl) ?_
        refine TO.dz 1023 (some 21) rfl rfl rfl rfl (Does.callF go78 rfl (sipPut_fn _ _)) ?_
        rintro _ _ ⟨bP, cP, spP, rfl, hcP, rfl⟩
        refine roK ?_
        refine TA.one 10 (by kernel_rfl) ?_
        refine TO.dz 2047 (some 22) rfl rfl rfl rfl (Does.buildSlice sl180 sz37 ze37 (by decide) (by decide) rfl rfl rfl) ?_
        rintro _ _ ⟨bC, rfl, rfl⟩
        refine roK ?_
        refine TA.one 11 (by kernel_rfl) ?_
        refine TO.dz 4095 (some 23) rfl rfl rfl rfl (Does.callF go101 rfl (Concat_fn [(some ⟨bL, 0, none⟩, lab, cL), (some ⟨bI, 0, none⟩, [Go.X.b8 (i + 1 : Nat)], 1), (some ⟨bP, 0, none⟩, put8 n, cP)] _ 3 3 _ (.some (Rd.get (i := 0) rfl rfl)) rfl (by intro x hx; simp only [List.mem_cons, List.not_mem_nil, or_false] at hx; rcases hx with rfl | rfl | rfl <;> first | exact .some (Rd.get (i := 1) rfl (by first | rfl | simp [bv])) | exact .some (Rd.get (i := 2) rfl (by first | rfl | simp [bv])) | exact .some (Rd.get (i := 3) rfl (by first | rfl | simp [bv]))) (by rw [cat3]; simp; omega) (by simp))) ?_
        rintro _ _ ⟨σ, rfl, hok, rfl⟩
        rw [cat3] at hok ⊢
        refine roK ?_
        refine TA.one 12 (by kernel_rfl) ?_
        refine TO.dz 8191 (some 24) rfl rfl rfl rfl (Does.callF go79 rfl (sipSum_fn k (lab ++ [Go.X.b8 (i + 1 : Nat)] ++ put8 n) _ _ _ _ (slRd hok (fun x h => List.mem_append_left _ h)) rfl (by simp; omega))) ?_
        rintro _ _ ⟨rfl, rfl⟩
        refine roK ?_
        refine TA.heap (M' := (b3, .cells (dR k lab n i).toArray 69 (0, 0)) :: (b2, .cells #[.int .u64 0, .int .u64 0] 69 (0, 0)) :: ((b1, .cells #[.int .u64 k.a, .int .u64 k.b] 69 (0, 0)) :: M)) (by repeat (first | exact ro_refl | exact ro_pre | refine ro_tail ?_ | refine ro_app ?_)) ?_
        refine TA.tk 13 16383 rfl rfl rfl (Val.indexAddrA (i := i) (r := i) rfl rfl ar69 sz24 rfl hi2 (by omega)) ?_
        refine TA.one 14 (by kernel_rfl) ?_
        refine TO.dz 32767 none rfl rfl rfl rfl (Does.store (i := 0) rfl rfl rfl sz24 rfl rfl (by simp [dR]; omega) (dR_splice (i := i) hi2) rfl) ?_
        rintro _ _ ⟨rfl, rfl⟩
        refine roK ?_
        refine TA.done (by kernel_rfl) ?_
        refine AtX.blk ?_
        refine AtX.then ?_
        refine TC.region ?_
        first
          | refine TL.val rfl rfl (Nat.le_of_ble_eq_true rfl) (Val.add rfl rfl (w_i64 (by omega) (by omega))) ?_
          | refine TL.val rfl rfl (Nat.le_of_ble_eq_true rfl) (Val.add rfl rfl rfl) ?_
        refine TL.val rfl rfl (Nat.le_of_ble_eq_true rfl) (Val.move rfl) ?_
        refine TL.nil ?_
        refine AtX.round (i + 1) ?_ ?_ (Sub.cons rfl (Sub.cons rfl (Sub.cons rfl (Sub.cons rfl (Sub.cons rfl (Sub.cons rfl (Sub.nil _))))))) (fun _ h => h)
        · omega
        · omega
      · skip
        refine TO.dz 895 (some 21) rfl rfl rfl rfl (Does.callF go78 rfl (sipPut_fn _ _)) ?_
        rintro _ _ ⟨bP, cP, spP, rfl, hcP, rfl⟩
        refine roK ?_
        refine TA.one 7 (by kernel_rfl) ?_
        refine TO.dz 1023 (some 19) rfl rfl rfl rfl (Does.buildSlice sl37 sz5 ze5 (by decide) (by decide) rfl rfl rfl) ?_
        rintro _ _ ⟨bI, rfl, rfl⟩
        refine roK ?_
        refine TA.one 10 (by kernel_rfl) ?_
        refine TO.dz 2047 (some 22) rfl rfl rfl rfl (Does.buildSlice sl180 sz37 ze37 (by decide) (by decide) rfl rfl rfl) ?_
        rintro _ _ ⟨bC, rfl, rfl⟩
        refine roK ?_
        refine TA.one 11 (by kernel_rfl) ?_
        refine TO.dz 4095 (some 23) rfl rfl rfl rfl (Does.callF go101 rfl (Concat_fn [(some ⟨bL, 0, none⟩, lab, cL), (some ⟨bI, 0, none⟩, [Go.X.b8 (i + 1 : Nat)], 1), (some ⟨bP, 0, none⟩, put8 n, cP)] _ 3 3 _ (.some (Rd.get (i := 0) rfl rfl)) rfl (by intro x hx; simp only [List.mem_cons, List.not_mem_nil, or_false] at hx; rcases hx with rfl | rfl | rfl <;> first | exact .some (Rd.get (i := 1) rfl (by first | rfl | simp [bv])) | exact .some (Rd.get (i := 2) rfl (by first | rfl | simp [bv])) | exact .some (Rd.get (i := 3) rfl (by first | rfl | simp [bv]))) (by rw [cat3]; simp; omega) (by simp))) ?_
        rintro _ _ ⟨σ, rfl, hok, rfl⟩
        rw [cat3] at hok ⊢
        refine roK ?_
        refine TA.one 12 (by kernel_rfl) ?_
        refine TO.dz 8191 (some 24) rfl rfl rfl rfl (Does.callF go79 rfl (sipSum_fn k (lab ++ [Go.X.b8 (i + 1 : Nat)] ++ put8 n) _ _ _ _ (slRd hok (fun x h => List.mem_append_left _ h)) rfl (by simp; omega))) ?_
        rintro _ _ ⟨rfl, rfl⟩
        refine roK ?_
        refine TA.heap (M' := (b3, .cells (dR k lab n i).toArray 69 (0, 0)) :: (b2, .cells #[.int .u64 0, .int .u64 0] 69 (0, 0)) :: ((b1, .cells #[.int .u64 k.a, .int .u64 k.b] 69 (0, 0)) :: M)) (by repeat (first | exact ro_refl | exact ro_pre | refine ro_tail ?_ | refine ro_app ?_)) ?_
        refine TA.tk 13 16383 rfl rfl rfl (Val.indexAddrA (i := i) (r := i) rfl rfl ar69 sz24 rfl hi2 (by omega)) ?_
        refine TA.one 14 (by kernel_rfl) ?_
        refine TO.dz 32767 none rfl rfl rfl rfl (Does.store (i := 0) rfl rfl rfl sz24 rfl rfl (by simp [dR]; omega) (dR_splice (i := i) hi2) rfl) ?_
        rintro _ _ ⟨rfl, rfl⟩
        refine roK ?_
        refine TA.done (by kernel_rfl) ?_
        refine AtX.blk ?_
        refine AtX.then ?_
        refine TC.region ?_
        first
          | refine TL.val rfl rfl (Nat.le_of_ble_eq_true rfl) (Val.add rfl rfl (w_i64 (by omega) (by omega))) ?_
          | refine TL.val rfl rfl (Nat.le_of_ble_eq_true rfl) (Val.add rfl rfl rfl) ?_
        refine TL.val rfl rfl (Nat.le_of_ble_eq_true rfl) (Val.move rfl) ?_
        refine TL.nil ?_
        refine AtX.round (i + 1) ?_ ?_ (Sub.cons rfl (Sub.cons rfl (Sub.cons rfl (Sub.cons rfl (Sub.cons rfl (Sub.cons rfl (Sub.nil _))))))) (fun _ h => h)
        · omega
        · omega
    · skip
      refine TO.dz 503 (some 19) rfl rfl rfl rfl (Does.buildSlice sl37 sz5 ze5 (by decide) (by decide) rfl rfl rfl) ?_
      rintro _ _ ⟨bI, rfl, rfl⟩
      refine roK ?_
      refine TA.two 3 9 (by kernel_rfl) ?_ ?_
      · skip
        refine TO.dz 511 (some 15) rfl rfl rfl rfl (Does.s2bL rfl un9 us37 ui5) ?_
        rintro _ _ ⟨bL, cL, spL, fzL, rfl, rfl⟩
        refine roK ?_
        refine TA.one 9 (by kernel_rfl) ?_
        refine TO.dz 1023 (some 21) rfl rfl rfl rfl (Does.callF go78 rfl (sipPut_fn _ _)) ?_
        rintro _ _ ⟨bP, cP, spP, rfl, hcP, rfl⟩
        refine roK ?_
        refine TA.one 10 (by kernel_rfl) ?_
        refine TO.dz 2047 (some 22) rfl rfl rfl rfl (Does.buildSlice sl180 sz37 ze37 (by decide) (by decide) rfl rfl rfl) ?_
        rintro _ _ ⟨bC, rfl, rfl⟩
        refine roK ?_
        refine TA.one 11 (by kernel_rfl) ?_
        refine TO.dz 4095 (some 23) rfl rfl rfl rfl (Does.callF go101 rfl (Concat_fn [(some ⟨bL, 0, none⟩, lab, cL), (some ⟨bI, 0, none⟩, [Go.X.b8 (i + 1 : Nat)], 1), (some ⟨bP, 0, none⟩, put8 n, cP)] _ 3 3 _ (.some (Rd.get (i := 0) rfl rfl)) rfl (by intro x hx; simp only [List.mem_cons, List.not_mem_nil, or_false] at hx; rcases hx with rfl | rfl | rfl <;> first | exact .some (Rd.get (i := 1) rfl (by first | rfl | simp [bv])) | exact .some (Rd.get (i := 2) rfl (by first | rfl | simp [bv])) | exact .some (Rd.get (i := 3) rfl (by first | rfl | simp [bv]))) (by rw [cat3]; simp; omega) (by simp))) ?_
        rintro _ _ ⟨σ, rfl, hok, rfl⟩
        rw [cat3] at hok ⊢
        refine roK ?_
        refine TA.one 12 (by kernel_rfl) ?_
        refine TO.dz 8191 (some 24) rfl rfl rfl rfl (Does.callF go79 rfl (sipSum_fn k (lab ++ [Go.X.b8 (i + 1 : Nat)] ++ put8 n) _ _ _ _ (slRd hok (fun x h => List.mem_append_left _ h)) rfl (by simp; omega))) ?_
        rintro _ _ ⟨rfl, rfl⟩
        refine roK ?_
        refine TA.heap (M' := (b3, .cells (dR k lab n i).toArray 69 (0, 0)) :: (b2, .cells #[.int .u64 0, .int .u64 0] 69 (0, 0)) :: ((b1, .cells #[.int .u64 k.a, .int .u64 k.b] 69 (0, 0)) :: M)) (by repeat (first | exact ro_refl | exact ro_pre | refine ro_tail ?_ | refine ro_app ?_)) ?_
        refine TA.tk 13 16383 rfl rfl rfl (Val.indexAddrA (i := i) (r := i) rfl rfl ar69 sz24 rfl hi2 (by omega)) ?_
        refine TA.one 14 (by kernel_rfl) ?_
        refine TO.dz 32767 none rfl rfl rfl rfl (Does.store (i := 0) rfl rfl rfl sz24 rfl rfl (by simp [dR]; omega) (dR_splice (i := i) hi2) rfl) ?_
        rintro _ _ ⟨rfl, rfl⟩
        refine roK ?_
        refine TA.done (by kernel_rfl) ?_
        refine AtX.blk ?_
        refine AtX.then ?_
        refine TC.region ?_
        first
          | refine TL.val rfl rfl (Nat.le_of_ble_eq_true rfl) (Val.add rfl rfl (w_i64 (by omega) (by omega))) ?_
          | refine TL.val rfl rfl (Nat.le_of_ble_eq_true rfl) (Val.add rfl rfl rfl) ?_
        refine TL.val rfl rfl (Nat.le_of_ble_eq_true rfl) (Val.move rfl) ?_
        refine TL.nil ?_
        refine AtX.round (i + 1) ?_ ?_ (Sub.cons rfl (Sub.cons rfl (Sub.cons rfl (Sub.cons rfl (Sub.cons rfl (Sub.cons rfl (Sub.nil _))))))) (fun _ h => h)
        · omega
        · omega
      · skip
        refine TO.dz 1015 (some 21) rfl rfl rfl rfl (Does.callF go78 rfl (sipPut_fn _ _)) ?_
        rintro _ _ ⟨bP, cP, spP, rfl, hcP, rfl⟩
        refine roK ?_
        refine TA.one 3 (by kernel_rfl) ?_
        refine TO.dz 1023 (some 15) rfl rfl rfl rfl (Does.s2bL rfl un9 us37 ui5) ?_
        rintro _ _ ⟨bL, cL, spL, fzL, rfl, rfl⟩
        refine roK ?_
        refine TA.one 10 (by kernel_rfl) ?_
        refine TO.dz 2047 (some 22) rfl rfl rfl rfl (Does.buildSlice sl180 sz37 ze37 (by decide) (by decide) rfl rfl rfl) ?_
        rintro _ _ ⟨bC, rfl, rfl⟩
        refine roK ?_
        refine TA.one 11 (by kernel_rfl) ?_
        refine TO.dz 4095 (some 23) rfl rfl rfl rfl (Does.callF go101 rfl (Concat_fn [(some ⟨bL, 0, none⟩, lab, cL), (some ⟨bI, 0, none⟩, [Go.X.b8 (i + 1 : Nat)], 1), (some ⟨bP, 0, none⟩, put8 n, cP)] _ 3 3 _ (.some (Rd.get (i := 0) rfl rfl)) rfl (by intro x hx; simp only [List.mem_cons, List.not_mem_nil, or_false] at hx; rcases hx with rfl | rfl | rfl <;> first | exact .some (Rd.get (i := 1) rfl (by first | rfl | simp [bv])) | exact .some (Rd.get (i := 2) rfl (by first | rfl | simp [bv])) | exact .some (Rd.get (i := 3) rfl (by first | rfl | simp [bv]))) (by rw [cat3]; simp; omega) (by simp))) ?_
        rintro _ _ ⟨σ, rfl, hok, rfl⟩
        rw [cat3] at hok ⊢
        refine roK ?_
        refine TA.one 12 (by kernel_rfl) ?_
        refine TO.dz 8191 (some 24) rfl rfl rfl rfl (Does.callF go79 rfl (sipSum_fn k (lab ++ [Go.X.b8 (i + 1 : Nat)] ++ put8 n) _ _ _ _ (slRd hok (fun x h => List.mem_append_left _ h)) rfl (by simp; omega))) ?_
        rintro _ _ ⟨rfl, rfl⟩
        refine roK ?_
        refine TA.heap (M' := (b3, .cells (dR k lab n i).toArray 69 (0, 0)) :: (b2, .cells #[.int .u64 0, .int .u64 0] 69 (0, 0)) :: ((b1, .cells #[.int .u64 k.a, .int .u64 k.b] 69 (0, 0)) :: M)) (by repeat (first | exact ro_refl | exact ro_pre | refine ro_tail ?_ | refine ro_app ?_)) ?_
        refine TA.tk 13 16383 rfl rfl rfl (Val.indexAddrA (i := i) (r := i) rfl rfl ar69 sz24 rfl hi2 (by omega)) ?_
        refine TA.one 14 (by kernel_rfl) ?_
        refine TO.dz 32767 none rfl rfl rfl rfl (Does.store (i := 0) rfl rfl rfl sz24 rfl rfl (by simp [dR]; omega) (dR_splice (i := i) hi2) rfl) ?_
        rintro _ _ ⟨rfl, rfl⟩
        refine roK ?_
        refine TA.done (by kernel_rfl) ?_
        refine AtX.blk ?_
        refine AtX.then ?_
        refine TC.region ?_
        first
          | refine TL.val rfl rfl (Nat.le_of_ble_eq_true rfl) (Val.add rfl rfl (w_i64 (by omega) (by omega))) ?_
          | refine TL.val rfl rfl (Nat.le_of_ble_eq_true rfl) (Val.add rfl rfl rfl) ?_
        refine TL.val rfl rfl (Nat.le_of_ble_eq_true rfl) (Val.move rfl) ?_
        refine TL.nil ?_
        refine AtX.round (i + 1) ?_ ?_ (Sub.cons rfl (Sub.cons rfl (Sub.cons rfl (Sub.cons rfl (Sub.cons rfl (Sub.cons rfl (Sub.nil _))))))) (fun _ h => h)
        · omega
        · omega
    · skip
      refine TO.dz 887 (some 21) rfl rfl rfl rfl (Does.callF go78 rfl (sipPut_fn _ _)) ?_
      rintro _ _ ⟨bP, cP, spP, rfl, hcP, rfl⟩
      refine roK ?_
      refine TA.two 3 7 (by kernel_rfl) ?_ ?_
      · skip
        refine TO.dz 895 (some 15) rfl rfl rfl rfl (Does.s2bL rfl un9 us37 ui5) ?_
        rintro _ _ ⟨bL, cL, spL, fzL, rfl, rfl⟩
        refine roK ?_
        refine TA.one 7 (by kernel_rfl) ?_
        refine TO.dz 1023 (some 19) rfl rfl rfl rfl (Does.buildSlice sl37 sz5 ze5 (by decide) (by decide) rfl rfl rfl) ?_
        rintro _ _ ⟨bI, rfl, rfl⟩
        refine roK ?_
        refine TA.one 10 (by kernel_rfl) ?_
        refine TO.dz 2047 (some 22) rfl rfl rfl rfl (Does.buildSlice sl180 sz37 ze37 (by decide) (by decide) rfl rfl rfl) ?_
        rintro _ _ ⟨bC, rfl, rfl⟩
        refine roK ?_
        refine TA.one 11 (by kernel_rfl) ?_
        refine TO.dz 4095 (some 23) rfl rfl rfl rfl (Does.callF go101 rfl (Concat_fn [(some ⟨bL, 0, none⟩, lab, cL), (some ⟨bI, 0, none⟩, [Go.X.b8 (i + 1 : Nat)], 1), (some ⟨bP, 0, none⟩, put8 n, cP)] _ 3 3 _ (.some (Rd.get (i := 0) rfl rfl)) rfl (by intro x hx; simp only [List.mem_cons, List.not_mem_nil, or_false] at hx; rcases hx with rfl | rfl | rfl <;> first | exact .some (Rd.get (i := 1) rfl (by first | rfl | simp [bv])) | exact .some (Rd.get (i := 2) rfl (by first | rfl | simp [bv])) | exact .some (Rd.get (i := 3) rfl (by first | rfl | simp [bv]))) (by rw [cat3]; simp; omega) (by simp))) ?_
        rintro _ _ ⟨σ, rfl, hok, rfl⟩
        rw [cat3] at hok ⊢
        refine roK ?_
        refine TA.one 12 (by kernel_rfl) ?_
        refine TO.dz 8191 (some 24) rfl rfl rfl rfl (Does.callF go79 rfl (sipSum_fn k (lab ++ [Go.X.b8 (i + 1 : Nat)] ++ put8 n) _ _ _ _ (slRd hok (fun x h => List.mem_append_left _ h)) rfl (by simp; omega))) ?_
        rintro _ _ ⟨rfl, rfl⟩
        refine roK ?_
        refine TA.heap (M' := (b3, .cells (dR k lab n i).toArray 69 (0, 0)) :: (b2, .cells #[.int .u64 0, .int .u64 0] 69 (0, 0)) :: ((b1, .cells #[.int .u64 k.a, .int .u64 k.b] 69 (0, 0)) :: M)) (by repeat (first | exact ro_refl | exact ro_pre | refine ro_tail ?_ | refine ro_app ?_)) ?_
        refine TA.tk 13 16383 rfl rfl rfl (Val.indexAddrA (i := i) (r := i) rfl rfl ar69 sz24 rfl hi2 (by omega)) ?_
        refine TA.one 14 (by kernel_rfl) ?_
        refine TO.dz 32767 none rfl rfl rfl rfl (Does.store (i := 0) rfl rfl rfl sz24 rfl rfl (by simp [dR]; omega) (dR_splice (i := i) hi2) rfl) ?_
        rintro _ _ ⟨rfl, rfl⟩
        refine roK ?_
        refine TA.done (by kernel_rfl) ?_
        refine AtX.blk ?_
        refine AtX.then ?_
        refine TC.region ?_
        first
          | refine TL.val rfl rfl (Nat.le_of_ble_eq_true rfl) (Val.add rfl rfl (w_i64 (by omega) (by omega))) ?_
          | refine TL.val rfl rfl (Nat.le_of_ble_eq_true rfl) (Val.add rfl rfl rfl) ?_
        refine TL.val rfl rfl (Nat.le_of_ble_eq_true rfl) (Val.move rfl) ?_
        refine TL.nil ?_
        refine AtX.round (i + 1) ?_ ?_ (Sub.cons rfl (Sub.cons rfl (Sub.cons rfl (Sub.cons rfl (Sub.cons rfl (Sub.cons rfl (Sub.nil _))))))) (fun _ h => h)
        · omega
        · omega
      · skip
        refine TO.dz 1015 (some 19) rfl rfl rfl rfl (Does.buildSlice sl37 sz5 ze5 (by decide) (by decide) rfl rfl rfl) ?_
        rintro _ _ ⟨bI, rfl, rfl⟩
        refine roK ?_
        refine TA.one 3 (by kernel_rfl) ?_
        refine TO.dz 1023 (some 15) rfl rfl rfl rfl (Does.s2bL rfl un9 us37 ui5) ?_
        rintro _ _ ⟨bL, cL, spL, fzL, rfl, rfl⟩
        refine roK ?_
        refine TA.one 10 (by kernel_rfl) ?_
        refine TO.dz 2047 (some 22) rfl rfl rfl rfl (Does.buildSlice sl180 sz37 ze37 (by decide) (by decide) rfl rfl rfl) ?_
        rintro _ _ ⟨bC, rfl, rfl⟩
        refine roK ?_
        refine TA.one 11 (by kernel_rfl) ?_
        refine TO.dz 4095 (some 23) rfl rfl rfl rfl (Does.callF go101 rfl (Concat_fn [(some ⟨bL, 0, none⟩, lab, cL), (some ⟨bI, 0, none⟩, [Go.X.b8 (i + 1 : Nat)], 1), (some ⟨bP, 0, none⟩, put8 n, cP)] _ 3 3 _ (.some (Rd.get (i := 0) rfl rfl)) rfl (by intro x hx; simp only [List.mem_cons, List.not_mem_nil, or_false] at hx; rcases hx with rfl | rfl | rfl <;> first | exact .some (Rd.get (i := 1) rfl (by first | rfl | simp [bv])) | exact .some (Rd.get (i := 2) rfl (by first | rfl | simp [bv])) | exact .some (Rd.get (i := 3) rfl (by first | rfl | simp [bv]))) (by rw [cat3]; simp; omega) (by simp))) ?_
        rintro _ _ ⟨σ, rfl, hok, rfl⟩
        rw [cat3] at hok ⊢
        refine roK ?_
        refine TA.one 12 (by kernel_rfl) ?_
        refine TO.dz 8191 (some 24) rfl rfl rfl rfl (Does.callF go79 rfl (sipSum_fn k (lab ++ [Go.X.b8 (i + 1 : Nat)] ++ put8 n) _ _ _ _ (slRd hok (fun x h => List.mem_append_left _ h)) rfl (by simp; omega))) ?_
        rintro _ _ ⟨rfl, rfl⟩
        refine roK ?_
        refine TA.heap (M' := (b3, .cells (dR k lab n i).toArray 69 (0, 0)) :: (b2, .cells #[.int .u64 0, .int .u64 0] 69 (0, 0)) :: ((b1, .cells #[.int .u64 k.a, .int .u64 k.b] 69 (0, 0)) :: M)) (by repeat (first | exact ro_refl | exact ro_pre | refine ro_tail ?_ | refine ro_app ?_)) ?_
        refine TA.tk 13 16383 rfl rfl rfl (Val.indexAddrA (i := i) (r := i) rfl rfl ar69 sz24 rfl hi2 (by omega)) ?_
        refine TA.one 14 (by kernel_rfl) ?_
        refine TO.dz 32767 none rfl rfl rfl rfl (Does.store (i := 0) rfl rfl rfl sz24 rfl rfl (by simp [dR]; omega) (dR_splice (i := i) hi2) rfl) ?_
        rintro _ _ ⟨rfl, rfl⟩
        refine roK ?_
        refine TA.done (by kernel_rfl) ?_
        refine AtX.blk ?_
        refine AtX.then ?_
        refine TC.region ?_
        first
          | refine TL.val rfl rfl (Nat.le_of_ble_eq_true rfl) (Val.add rfl rfl (w_i64 (by omega) (by omega))) ?_
          | refine TL.val rfl rfl (Nat.le_of_ble_eq_true rfl) (Val.add rfl rfl rfl) ?_
        refine TL.val rfl rfl (Nat.le_of_ble_eq_true rfl) (Val.move rfl) ?_
        refine TL.nil ?_
        refine AtX.round (i + 1) ?_ ?_ (Sub.cons rfl (Sub.cons rfl (Sub.cons rfl (Sub.cons rfl (Sub.cons rfl (Sub.cons rfl (Sub.nil _))))))) (fun _ h => h)
        · omega
        · omega
  · skip
    refine TC.exit ?_
    refine AtX.seqX ?_
    refine AtX.seqX ?_
    refine AtX.hit ?_
    refine AtX.then ?_
    refine TC.env (E' := [(6, _), (7, _)]) (Sub.cons rfl (Sub.cons rfl (Sub.nil _))) ?_
    refine TC.seq ?_
    have h2 : i = 2 := by omega
    subst h2
    rw [dR_2]
    refine TC.region ?_
    first
      | refine TL.val rfl rfl (Nat.le_of_ble_eq_true rfl) (Val.loadAgg 0 rfl ag69 sz69 rfl rfl rfl) ?_
      | refine TL.val rfl rfl (Nat.le_of_ble_eq_true rfl) (Val.loadAgg 1 rfl ag69 sz69 rfl rfl rfl) ?_
      | refine TL.val rfl rfl (Nat.le_of_ble_eq_true rfl) (Val.loadAgg 2 rfl ag69 sz69 rfl rfl rfl) ?_
      | refine TL.val rfl rfl (Nat.le_of_ble_eq_true rfl) (Val.loadAgg 3 rfl ag69 sz69 rfl rfl rfl) ?_
      | refine TL.val rfl rfl (Nat.le_of_ble_eq_true rfl) (Val.loadAgg 4 rfl ag69 sz69 rfl rfl rfl) ?_
      | refine TL.val rfl rfl (Nat.le_of_ble_eq_true rfl) (Val.loadAgg 5 rfl ag69 sz69 rfl rfl rfl) ?_
    first
      | refine TL.does none rfl rfl rfl (Does.store (i := 0) rfl rfl rfl sz69 rfl rfl (by first | exact Nat.le_of_ble_eq_true rfl | decide | omega) rfl rfl) ?_
      | refine TL.does none rfl rfl rfl (Does.store (i := 1) rfl rfl rfl sz69 rfl rfl (by first | exact Nat.le_of_ble_eq_true rfl | decide | omega) rfl rfl) ?_
      | refine TL.does none rfl rfl rfl (Does.store (i := 2) rfl rfl rfl sz69 rfl rfl (by first | exact Nat.le_of_ble_eq_true rfl | decide | omega) rfl rfl) ?_
      | refine TL.does none rfl rfl rfl (Does.store (i := 3) rfl rfl rfl sz69 rfl rfl (by first | exact Nat.le_of_ble_eq_true rfl | decide | omega) rfl rfl) ?_
      | refine TL.does none rfl rfl rfl (Does.store (i := 4) rfl rfl rfl sz69 rfl rfl (by first | exact Nat.le_of_ble_eq_true rfl | decide | omega) rfl rfl) ?_
      | refine TL.does none rfl rfl rfl (Does.store (i := 5) rfl rfl rfl sz69 rfl rfl (by first | exact Nat.le_of_ble_eq_true rfl | decide | omega) rfl rfl) ?_
    rintro _ _ ⟨rfl, rfl⟩
    refine TL.nil ?_
    refine AtX.then ?_
    refine TC.env (E' := [(6, _)]) (Sub.cons rfl (Sub.nil _)) ?_
    first
      | refine TC.ret1 (fn := Try.f76) (fun _ _ h => h) rfl (RV.agg (i := 0) rfl ag69 sz69 rfl rfl rfl) (M' := M) (by repeat (first | exact ro_refl | exact ro_pre | refine ro_tail ?_ | refine ro_app ?_)) ?_
      | refine TC.ret1 (fn := Try.f76) (fun _ _ h => h) rfl (RV.agg (i := 1) rfl ag69 sz69 rfl rfl rfl) (M' := M) (by repeat (first | exact ro_refl | exact ro_pre | refine ro_tail ?_ | refine ro_app ?_)) ?_
      | refine TC.ret1 (fn := Try.f76) (fun _ _ h => h) rfl (RV.agg (i := 2) rfl ag69 sz69 rfl rfl rfl) (M' := M) (by repeat (first | exact ro_refl | exact ro_pre | refine ro_tail ?_ | refine ro_app ?_)) ?_
      | refine TC.ret1 (fn := Try.f76) (fun _ _ h => h) rfl (RV.agg (i := 3) rfl ag69 sz69 rfl rfl rfl) (M' := M) (by repeat (first | exact ro_refl | exact ro_pre | refine ro_tail ?_ | refine ro_app ?_)) ?_
      | refine TC.ret1 (fn := Try.f76) (fun _ _ h => h) rfl (RV.agg (i := 4) rfl ag69 sz69 rfl rfl rfl) (M' := M) (by repeat (first | exact ro_refl | exact ro_pre | refine ro_tail ?_ | refine ro_app ?_)) ?_
      | refine TC.ret1 (fn := Try.f76) (fun _ _ h => h) rfl (RV.agg (i := 5) rfl ag69 sz69 rfl rfl rfl) (M' := M) (by repeat (first | exact ro_refl | exact ro_pre | refine ro_tail ?_ | refine ro_app ?_)) ?_
    exact ⟨rfl, rfl⟩

end Go.Proofs.Ytphoapajlcaoeaa
