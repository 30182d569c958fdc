/- walks -/
import Derived.Test.YtphoapajlcaoeaaA18
import Derived.Test.YtphoapajlcaoeaaA12
import Derived.Test.YtphoapajlcaoeaaES10
import Derived.Test.YtphoapajlcaoeaaE9d
set_option linter.unusedVariables false
set_option linter.unusedSimpArgs false
set_option maxRecDepth 100000
set_option maxHeartbeats 4000000
namespace Go.Proofs.Ytphoapajlcaoeaa
open Go Go.X
theorem Corrupt_any (b i j : Nat) (c : Cf) (A : Option Addr) (nl cl bb : Nat) (σ : Sl) (nk : Nat) (n : Int) (l : List Bool) (H : Hp) (hi : H[i]? = some (wob b c A nl cl bb l.length σ nk n)) (hj : H[j]? = some (bb, row 4 (l.map Value.bool))) (hl : l.length ≤ 1000) (hnl : nl = l.length) (k : Nat) (hk : k < nl) (y : Bool) (hy : l[k]? = some y) :
    FnC Try.prog 14 #[.pointer (some ⟨b, 0, none⟩), .int .i64 (k : Nat)] H (fun v M' => ∃ (r : Int) (l' : List Bool), v = .int .i64 r ∧ (((y = true ∨ ((bads l).length : Int) < c.f) ∧ r = 0 ∧ l' = l.set k true) ∨ (¬ (y = true ∨ ((bads l).length : Int) < c.f) ∧ r = 9 ∧ l' = l)) ∧ M' = H.set j (bb, row 4 (l'.map Value.bool))) := by
  by_cases hm : y = true ∨ ((bads l).length : Int) < c.f
  · exact (Corrupt_yes b i j c A nl cl bb σ nk n l H hi hj hl hnl k hk y hy hm).mono fun v M' ⟨h1, h2⟩ => ⟨0, _, h1, .inl ⟨hm, rfl, rfl⟩, h2⟩
  · have hyf : y = false := by cases y <;> simp_all
    subst hyf
    exact (Corrupt_full b i j c A nl cl bb σ nk n l H hi hj hl hnl k hk hy (by simp at hm; omega)).mono fun v M' ⟨h1, h2⟩ => ⟨9, l, h1, .inr ⟨hm, rfl, rfl⟩, by rw [← h2]; exact (hp_self hj).symm⟩
/-- quorumite/quorumitelaw23.AdverseFew -/
theorem AdverseFew_fn (zs ls : List Int) (A B : Option Addr) (n cA n2 cB : Nat) (M : Hp) (hA : RdS M A (zs.map (Value.int .i64))) (hB : RdS M B (ls.map (Value.int .i64))) (hn : n = zs.length) (hn2 : n2 = ls.length) : FnC Try.prog 3 #[.slice A n cA, .slice B n2 cB] M (fun v M' => v = .bool true ∧ M = M') := by
  subst hn2
  refine FnC.intro Try.func3 rfl 134 rfl (by simp) (fun z => ?_)
  refine TC.env (E' := [(0, _), (1, _)]) (Sub.cons rfl (Sub.cons rfl (Sub.nil _))) ?_
  refine TC.seq ?_
  refine TC.region ?_
  refine TL.val rfl rfl (Nat.le_of_ble_eq_true rfl) (Val.assign rfl) ?_
  refine TL.nil ?_
  refine AtX.then ?_
  refine TC.seq ?_
  refine TC.region ?_
  refine TL.val rfl rfl (Nat.le_of_ble_eq_true rfl) (Val.move rfl) ?_
  refine TL.does (some 16) rfl rfl rfl (Does.callF go11 rfl (Fit_fn zs A n cA _ hA hn)) ?_
  rintro _ _ ⟨cf, rfl, hcf, rfl⟩
  have hn16 := hcf.n
  have hf16 := hcf.f
  obtain ⟨N, hN⟩ : ∃ N : Nat, cf.n = N := ⟨cf.n.toNat, by omega⟩
  refine TL.does (some 5) rfl rfl rfl (Does.alloc ze26 rfl) ?_
  rintro _ _ ⟨b2, rfl, rfl⟩
  refine TL.does none rfl rfl rfl (Does.storeR (ys' := [.int .i64 (cf.n), .int .i64 (cf.f), .int .i64 (cf.m), .int .i64 (cf.quorum), .int .i64 (cf.fresh), .int .i64 (cf.grace), .int .i64 (cf.window), .int .i64 (cf.t0), .int .i64 (cf.t1), .int .i64 (cf.t2), .int .i64 (cf.t3), .int .i64 (cf.tol), .int .i64 (cf.min), .int .i64 (cf.max), .int .i64 (cf.calmup), .int .i64 (cf.calmdown), .int .i64 (cf.podsup), .int .i64 (cf.pctup), .int .i64 (cf.podsdown), .int .i64 (cf.pctdown), .int .i64 (cf.period), .int .i64 (cf.far), .int .i64 (cf.strikes), .int .i64 (cf.probe), .int .i64 (cf.sectors), .int .u64 (cf.seed)]) 0 rfl rfl rfl sz26 rfl rfl (by exact Nat.le_of_ble_eq_true rfl) rfl) ?_
  rintro _ _ ⟨rfl, rfl⟩
  refine TL.nil ?_
  refine AtX.then ?_
  refine TC.env (E' := [(1, _), (4, _), (5, _)]) (Sub.cons rfl (Sub.cons rfl (Sub.cons rfl (Sub.nil _)))) ?_
  refine TC.seq ?_
  refine TC.region ?_
  refine TL.val rfl rfl (Nat.le_of_ble_eq_true rfl) (Val.loadAgg (vs := [.int .i64 (cf.n), .int .i64 (cf.f), .int .i64 (cf.m), .int .i64 (cf.quorum), .int .i64 (cf.fresh), .int .i64 (cf.grace), .int .i64 (cf.window), .int .i64 (cf.t0), .int .i64 (cf.t1), .int .i64 (cf.t2), .int .i64 (cf.t3), .int .i64 (cf.tol), .int .i64 (cf.min), .int .i64 (cf.max), .int .i64 (cf.calmup), .int .i64 (cf.calmdown), .int .i64 (cf.podsup), .int .i64 (cf.pctup), .int .i64 (cf.podsdown), .int .i64 (cf.pctdown), .int .i64 (cf.period), .int .i64 (cf.far), .int .i64 (cf.strikes), .int .i64 (cf.probe), .int .i64 (cf.sectors), .int .u64 (cf.seed)]) 0 rfl ag26 sz26 rfl rfl rfl) ?_
  refine TL.does (some 18) rfl rfl rfl (Does.callF go12 rfl (wNew_fn cf N _ hcf hN)) ?_
  rintro _ _ ⟨b, bl, cl, spl, bb, ss, rfl, hss, hsw, rfl⟩
  refine TL.heap (M' := (b2, .cells #[.int .i64 (cf.n), .int .i64 (cf.f), .int .i64 (cf.m), .int .i64 (cf.quorum), .int .i64 (cf.fresh), .int .i64 (cf.grace), .int .i64 (cf.window), .int .i64 (cf.t0), .int .i64 (cf.t1), .int .i64 (cf.t2), .int .i64 (cf.t3), .int .i64 (cf.tol), .int .i64 (cf.min), .int .i64 (cf.max), .int .i64 (cf.calmup), .int .i64 (cf.calmdown), .int .i64 (cf.podsup), .int .i64 (cf.pctup), .int .i64 (cf.podsdown), .int .i64 (cf.pctdown), .int .i64 (cf.period), .int .i64 (cf.far), .int .i64 (cf.strikes), .int .i64 (cf.probe), .int .i64 (cf.sectors), .int .u64 (cf.seed)] 26 (0, 0)) :: wob b cf (some ⟨bl, 0, none⟩) N cl bb N none 0 0 :: (bb, row 4 ((List.replicate N false).map Value.bool)) :: M) ro_keep2 ?_
  refine TL.val rfl rfl (Nat.le_of_ble_eq_true rfl) (Val.assign rfl) ?_
  refine TL.nil ?_
  refine AtX.then ?_
  refine TC.env (E' := [(1, _), (4, _), (5, _), (6, _)]) (Sub.cons rfl (Sub.cons rfl (Sub.cons rfl (Sub.cons rfl (Sub.nil _))))) ?_
  refine TC.seq ?_
  refine TC.seq ?_
  refine TC.region ?_
  refine TL.val rfl rfl (Nat.le_of_ble_eq_true rfl) (Val.move rfl) ?_
  refine TL.val rfl rfl (Nat.le_of_ble_eq_true rfl) (Val.eqlNil rfl rfl pt28) ?_
  refine TL.val rfl rfl (Nat.le_of_ble_eq_true rfl) (Val.move rfl) ?_
  refine TL.gen (fun g4 hg4 => ?_)
  refine TL.gval rfl rfl (Nat.le_of_ble_eq_true rfl) rfl (Nat.le_of_ble_eq_true rfl) rfl (fun hg => by subst hg; exact (Val.move rfl)) ?_
  refine TL.gval rfl rfl (Nat.le_of_ble_eq_true rfl) rfl (Nat.le_of_ble_eq_true rfl) rfl (fun hg => by subst hg; exact (Val.lenSl rfl rfl sl22)) ?_
  refine TL.gval rfl rfl (Nat.le_of_ble_eq_true rfl) rfl (Nat.le_of_ble_eq_true rfl) rfl (fun hg => by subst hg; exact (Val.gtr rfl rfl)) ?_
  first
    | refine TL.val rfl rfl (Nat.le_of_ble_eq_true rfl) (Val.pickAnd rfl rfl rfl) ?_
    | refine TL.val rfl rfl (Nat.le_of_ble_eq_true rfl) (Val.pickOr rfl rfl rfl) ?_
    | refine TL.val rfl rfl (Nat.le_of_ble_eq_true rfl) (Val.pick rfl rfl rfl) ?_
  refine TL.nil ?_
  refine AtX.then ?_
  refine TC.env (E' := [(1, _), (4, _), (5, _), (6, _), (25, _)]) (Sub.cons rfl (Sub.cons rfl (Sub.cons rfl (Sub.cons rfl (Sub.cons rfl (Sub.nil _)))))) ?_
  first | refine TC.condP rfl (fun c1 => ?_) (fun c1 => ?_) | refine TC.condN rfl (fun c1 => ?_) (fun c1 => ?_) | refine TC.condB rfl (fun c1 => ?_) (fun c1 => ?_) | refine TC.cond rfl (fun c1 => ?_) (fun c1 => ?_)
  · skip
    refine TC.env (E' := [(1, _), (4, _), (5, _), (6, _)]) (Sub.cons rfl (Sub.cons rfl (Sub.cons rfl (Sub.cons rfl (Sub.nil _))))) ?_
    refine TC.seq ?_
    refine TC.region ?_
    refine TL.does (some 26) rfl rfl rfl (Does.callF go13 rfl (told23_fn _)) ?_
    rintro _ _ ⟨rfl, rfl⟩
    refine TL.val rfl rfl (Nat.le_of_ble_eq_true rfl) (Val.move rfl) ?_
    refine TL.valYes rfl rfl (Nat.le_of_ble_eq_true rfl) rfl (Nat.le_of_ble_eq_true rfl) rfl (Val.move rfl) ?_
    refine TL.valYes rfl rfl (Nat.le_of_ble_eq_true rfl) rfl (Nat.le_of_ble_eq_true rfl) rfl (Val.neqNil rfl rfl pt28) ?_
    first
      | refine TL.val rfl rfl (Nat.le_of_ble_eq_true rfl) (Val.pickAnd rfl rfl rfl) ?_
      | refine TL.val rfl rfl (Nat.le_of_ble_eq_true rfl) (Val.pickOr rfl rfl rfl) ?_
      | refine TL.val rfl rfl (Nat.le_of_ble_eq_true rfl) (Val.pick rfl rfl rfl) ?_
    refine TL.val rfl rfl (Nat.le_of_ble_eq_true rfl) (Val.assign rfl) ?_
    refine TL.nil ?_
    refine AtX.then ?_
    refine TC.env (E' := [(1, _), (4, _), (5, _), (6, _)]) (Sub.cons rfl (Sub.cons rfl (Sub.cons rfl (Sub.cons rfl (Sub.nil _))))) ?_
    refine TC.ret1 (fn := Try.f3) (fun _ _ h => h) rfl (RV.tmp rfl) (M' := M) (by repeat (first | exact ro_refl | exact ro_pre | refine ro_tail ?_ | refine ro_app ?_)) ?_
    exact ⟨rfl, rfl⟩
  · skip
    refine TC.env (E' := [(1, _), (4, _), (5, _), (6, _)]) (Sub.cons rfl (Sub.cons rfl (Sub.cons rfl (Sub.cons rfl (Sub.nil _))))) ?_
    refine TC.skip ?_
    refine AtX.then ?_
    refine TC.env (E' := [(1, _), (4, _), (5, _), (6, _)]) (Sub.cons rfl (Sub.cons rfl (Sub.cons rfl (Sub.cons rfl (Sub.nil _))))) ?_
    refine TC.seq ?_
    refine TC.region ?_
    refine TL.does (some 7) rfl rfl rfl (Does.alloc ze31 rfl) ?_
    rintro _ _ ⟨bq, rfl, rfl⟩
    refine TL.nil ?_
    refine AtX.then ?_
    refine TC.env (E' := [(1, _), (4, _), (5, _), (6, _), (7, _)]) (Sub.cons rfl (Sub.cons rfl (Sub.cons rfl (Sub.cons rfl (Sub.cons rfl (Sub.nil _)))))) ?_
    refine TC.seq ?_
    have hls : ls.length ≤ 30 := by grind
    refine TC.region ?_
    refine TL.val rfl rfl (Nat.le_of_ble_eq_true rfl) (Val.assign rfl) ?_
    refine TL.nil ?_
    refine AtX.then ?_
    refine TC.env (E' := [(1, _), (4, _), (5, _), (6, _), (7, _), (8, _)]) (Sub.cons rfl (Sub.cons rfl (Sub.cons rfl (Sub.cons rfl (Sub.cons rfl (Sub.cons rfl (Sub.nil _))))))) ?_
    refine TC.seq ?_
    refine TC.seq ?_
    refine TC.region ?_
    refine TL.val rfl rfl (Nat.le_of_ble_eq_true rfl) (Val.assign rfl) ?_
    refine TL.nil ?_
    refine AtX.then ?_
    refine TC.env (E' := [(1, _), (4, _), (5, _), (6, _), (7, _), (8, _), (9, _)]) (Sub.cons rfl (Sub.cons rfl (Sub.cons rfl (Sub.cons rfl (Sub.cons rfl (Sub.cons rfl (Sub.cons rfl (Sub.nil _)))))))) ?_
    refine TC.block ?_
    refine TC.loop (ι := (Nat × List Bool)) (fun i => [(1, .slice B ls.length cB), (5, .pointer (some ⟨b2, 0, none⟩)), (6, .pointer (some ⟨b, 0, none⟩)), (7, .pointer (some ⟨bq, 0, none⟩)), (8, .int .i64 ((bads i.2).length : Nat)), (9, .int .i64 (i.1 : Nat))]) (fun i => (bq, row 31 ((i.2 ++ List.replicate (16 - N) false).map Value.bool)) :: (b2, .cells #[.int .i64 (cf.n), .int .i64 (cf.f), .int .i64 (cf.m), .int .i64 (cf.quorum), .int .i64 (cf.fresh), .int .i64 (cf.grace), .int .i64 (cf.window), .int .i64 (cf.t0), .int .i64 (cf.t1), .int .i64 (cf.t2), .int .i64 (cf.t3), .int .i64 (cf.tol), .int .i64 (cf.min), .int .i64 (cf.max), .int .i64 (cf.calmup), .int .i64 (cf.calmdown), .int .i64 (cf.podsup), .int .i64 (cf.pctup), .int .i64 (cf.podsdown), .int .i64 (cf.pctdown), .int .i64 (cf.period), .int .i64 (cf.far), .int .i64 (cf.strikes), .int .i64 (cf.probe), .int .i64 (cf.sectors), .int .u64 (cf.seed)] 26 (0, 0)) :: wob b cf (some ⟨bl, 0, none⟩) N cl bb N none 0 0 :: (bb, row 4 ((i.2).map Value.bool)) :: M) (fun i => i.1 ≤ ls.length ∧ i.2.length = N) (fun i => ls.length - i.1) (0, List.replicate N false) ?_ (Sub.cons rfl (Sub.cons rfl (Sub.cons rfl (Sub.cons rfl (Sub.cons (by dsimp only; rw [bads_0]; rfl) (Sub.cons rfl (Sub.nil _))))))) (fun w h => by have e : List.replicate N false ++ List.replicate (16 - N) false = List.replicate 16 false := (by rw [List.replicate_append_replicate]; congr 1; omega); dsimp only; rw [e]; exact h) ?_
    · exact ⟨Nat.zero_le _, by simp⟩
    rintro ⟨i, l⟩ ⟨hi, hlN⟩
    dsimp only at hi hlN ⊢
    refine TC.seq ?_
    refine TC.seq ?_
    refine TC.region ?_
    refine TL.val rfl rfl (Nat.le_of_ble_eq_true rfl) (Val.move rfl) ?_
    refine TL.val rfl rfl (Nat.le_of_ble_eq_true rfl) (Val.move rfl) ?_
    refine TL.val rfl rfl (Nat.le_of_ble_eq_true rfl) (Val.lenSl rfl rfl sl22) ?_
    refine TL.val rfl rfl (Nat.le_of_ble_eq_true rfl) (Val.lss rfl rfl) ?_
    refine TL.nil ?_
    refine AtX.then ?_
    first | refine TC.condP rfl (fun c2 => ?_) (fun c2 => ?_) | refine TC.condN rfl (fun c2 => ?_) (fun c2 => ?_) | refine TC.condB rfl (fun c2 => ?_) (fun c2 => ?_) | refine TC.cond rfl (fun c2 => ?_) (fun c2 => ?_)
    · skip
      refine TC.skip ?_
      refine AtX.then ?_
      refine TC.seq ?_
      refine TC.block ?_
      refine TC.seq ?_
      have hlt : i < ls.length := by omega
      obtain ⟨x, hx⟩ : ∃ x, ls[i]? = some x := ⟨_, List.getElem?_eq_getElem hlt⟩
      obtain ⟨bB, oB, rfl, hRB⟩ := RdS.get hB (by simp; omega)
      obtain ⟨r, hr, gr, lr⟩ := rem_ex (m := IntKind.u64.wrap x) (d := cf.n) (by rw [w_u64m]; omega) (by omega)
      obtain ⟨k, rfl⟩ : ∃ k : Nat, r = k := ⟨r.toNat, by omega⟩
      obtain ⟨y, hy⟩ : ∃ y, l[k]? = some y := ⟨_, List.getElem?_eq_getElem (by omega)⟩
      have hble := badTo_le l l.length
      have hble2 : (bads l).length ≤ l.length := hble
      refine TC.drawLM mixed 11 ?_
      refine TA.tk 0 1 rfl rfl rfl (Val.move rfl) ?_
      refine TA.tk 1 3 rfl rfl rfl (Val.move rfl) ?_
      refine TA.tk 2 7 rfl rfl rfl (Val.indexAddr (i := i) (r := oB + i) rfl rfl sl22 sz3 rfl hlt (by omega)) ?_
      refine TA.tk 3 15 rfl rfl rfl (Val.loadRd (o := oB) (j := i) rfl ag3 (Rd.cons _ (Rd.cons _ (Rd.cons _ (Rd.cons _ hRB)))) rfl (map_get hx)) ?_
      refine TA.tk 4 31 rfl rfl rfl (Val.convI rfl iu3 in32 rfl) ?_
      refine TA.tk 5 63 rfl rfl rfl (Val.fieldAddr rfl fl26_0 sz3 rfl) ?_
      first
        | refine TA.tk 6 127 rfl rfl rfl (Val.load 0 rfl ag3 rfl rfl) ?_
        | refine TA.tk 6 127 rfl rfl rfl (Val.load 1 rfl ag3 rfl rfl) ?_
        | refine TA.tk 6 127 rfl rfl rfl (Val.load 2 rfl ag3 rfl rfl) ?_
        | refine TA.tk 6 127 rfl rfl rfl (Val.load 3 rfl ag3 rfl rfl) ?_
        | refine TA.tk 6 127 rfl rfl rfl (Val.load 4 rfl ag3 rfl rfl) ?_
        | refine TA.tk 6 127 rfl rfl rfl (Val.load 5 rfl ag3 rfl rfl) ?_
      first
        | refine TA.tk 7 255 rfl rfl rfl (Val.convI rfl iu3 in32 (w_u64 (by omega) (by omega))) ?_
        | refine TA.tk 7 255 rfl rfl rfl (Val.convI rfl iu3 in32 rfl) ?_
      refine TA.tk 8 511 rfl rfl rfl (Val.rem rfl rfl (by omega) (r := ((k : Nat) : Int)) hr) ?_
      first
        | refine TA.tk 9 1023 rfl rfl rfl (Val.convI rfl iu32 in3 (w_i64 (by omega) (by omega))) ?_
        | refine TA.tk 9 1023 rfl rfl rfl (Val.convI rfl iu32 in3 rfl) ?_
      refine TA.tk 10 2047 rfl rfl rfl (Val.assign rfl) ?_
      refine TA.done (by kernel_rfl) ?_
      refine AtX.then ?_
      refine TC.seq ?_
      refine TC.region ?_
      refine TL.val rfl rfl (Nat.le_of_ble_eq_true rfl) (Val.move rfl) ?_
      refine TL.val rfl rfl (Nat.le_of_ble_eq_true rfl) (Val.move rfl) ?_
      refine TL.does (some 49) rfl rfl rfl (Does.callF go14 rfl (Corrupt_any b 2 3 cf _ N cl bb none 0 0 l _ (by rw [hlN]; rfl) rfl (by omega) (by omega) k (by omega) y hy)) ?_
      rintro _ _ ⟨r2, l2, rfl, hr2, rfl⟩
      refine TL.val rfl rfl (Nat.le_of_ble_eq_true rfl) (Val.assign rfl) ?_
      refine TL.nil ?_
      refine AtX.then ?_
      refine TC.seq ?_
      refine TC.region ?_
      refine TL.val rfl rfl (Nat.le_of_ble_eq_true rfl) (Val.move rfl) ?_
      refine TL.val rfl rfl (Nat.le_of_ble_eq_true rfl) (Val.indexAddrA (i := k) (r := k) rfl rfl ar31 sz4 rfl (by omega) (by omega)) ?_
      refine TL.val rfl rfl (Nat.le_of_ble_eq_true rfl) (Val.loadRd (o := 0) (j := k) (v := .bool y) rfl ag4 (rd_rowA (i := 0) rfl) (by omega) (map_get (pad_get hy))) ?_
      refine TL.val rfl rfl (Nat.le_of_ble_eq_true rfl) (Val.move rfl) ?_
      refine TL.gen (fun g7 hg7 => ?_)
      refine TL.gval rfl rfl (Nat.le_of_ble_eq_true rfl) rfl (Nat.le_of_ble_eq_true rfl) rfl (fun hg => by subst hg; exact (Val.move rfl)) ?_
      refine TL.gval rfl rfl (Nat.le_of_ble_eq_true rfl) rfl (Nat.le_of_ble_eq_true rfl) rfl (fun hg => by subst hg; exact (Val.fieldAddr rfl fl26_1 sz3 rfl)) ?_
      first
        | refine TL.gval rfl rfl (Nat.le_of_ble_eq_true rfl) rfl (Nat.le_of_ble_eq_true rfl) rfl (fun hg => by subst hg; exact (Val.load 0 rfl ag3 rfl rfl)) ?_
        | refine TL.gval rfl rfl (Nat.le_of_ble_eq_true rfl) rfl (Nat.le_of_ble_eq_true rfl) rfl (fun hg => by subst hg; exact (Val.load 1 rfl ag3 rfl rfl)) ?_
        | refine TL.gval rfl rfl (Nat.le_of_ble_eq_true rfl) rfl (Nat.le_of_ble_eq_true rfl) rfl (fun hg => by subst hg; exact (Val.load 2 rfl ag3 rfl rfl)) ?_
        | refine TL.gval rfl rfl (Nat.le_of_ble_eq_true rfl) rfl (Nat.le_of_ble_eq_true rfl) rfl (fun hg => by subst hg; exact (Val.load 3 rfl ag3 rfl rfl)) ?_
        | refine TL.gval rfl rfl (Nat.le_of_ble_eq_true rfl) rfl (Nat.le_of_ble_eq_true rfl) rfl (fun hg => by subst hg; exact (Val.load 4 rfl ag3 rfl rfl)) ?_
        | refine TL.gval rfl rfl (Nat.le_of_ble_eq_true rfl) rfl (Nat.le_of_ble_eq_true rfl) rfl (fun hg => by subst hg; exact (Val.load 5 rfl ag3 rfl rfl)) ?_
      refine TL.gval rfl rfl (Nat.le_of_ble_eq_true rfl) rfl (Nat.le_of_ble_eq_true rfl) rfl (fun hg => by subst hg; exact (Val.lss rfl rfl)) ?_
      first
        | refine TL.val rfl rfl (Nat.le_of_ble_eq_true rfl) (Val.pickAnd rfl rfl rfl) ?_
        | refine TL.val rfl rfl (Nat.le_of_ble_eq_true rfl) (Val.pickOr rfl rfl rfl) ?_
        | refine TL.val rfl rfl (Nat.le_of_ble_eq_true rfl) (Val.pick rfl rfl rfl) ?_
      refine TL.gen (fun may hmay0 => ?_)
      refine TL.val rfl rfl (Nat.le_of_ble_eq_true rfl) (Val.assign rfl) ?_
      refine TL.nil ?_
      refine AtX.then ?_
      refine TC.seq ?_
      refine TC.seq ?_
      have hmay : may = true ↔ (y = true ∨ ((bads l).length : Int) < cf.f) := by clear hx hy hRB hr; grind
      have hr0 : (r2 = 0 ↔ may = true) ∧ (r2 = 0 ∨ r2 = 9) := by rw [hmay]; rcases hr2 with ⟨h1, h2, _⟩ | ⟨h1, h2, _⟩ <;> subst h2 <;> simp [h1]
      have hl2N : l2.length = N := by rcases hr2 with ⟨_, _, h⟩ | ⟨_, _, h⟩ <;> rw [h] <;> simp [hlN]
      have hT : may = true → y = false → l2 = l.set k true := fun h1 h2 => by rcases hr2 with ⟨_, _, h⟩ | ⟨h3, _, _⟩; exact h; exact absurd (hmay.1 h1) h3
      have hF : (may = false ∨ y = true) → l2 = l := fun h1 => by rcases hr2 with ⟨h3, _, h⟩ | ⟨_, _, h⟩; (rcases h1 with h1 | h1; (rw [hmay.2 h3] at h1; cases h1); (rw [h, set_same (h1 ▸ hy)])); exact h
      clear hmay0
      refine TC.region ?_
      refine TL.val rfl rfl (Nat.le_of_ble_eq_true rfl) (Val.move rfl) ?_
      refine TL.val rfl rfl (Nat.le_of_ble_eq_true rfl) (Val.eqlI rfl rfl) ?_
      refine TL.val rfl rfl (Nat.le_of_ble_eq_true rfl) (Val.move rfl) ?_
      refine TL.val rfl rfl (Nat.le_of_ble_eq_true rfl) (Val.neqB rfl rfl un4) ?_
      refine TL.val rfl rfl (Nat.le_of_ble_eq_true rfl) (Val.move rfl) ?_
      refine TL.gen (fun g8 hg8 => ?_)
      cases g8 with
      | false =>
        refine TL.valYes rfl rfl (Nat.le_of_ble_eq_true rfl) rfl (Nat.le_of_ble_eq_true rfl) rfl (Val.move rfl) ?_
        refine TL.valYes rfl rfl (Nat.le_of_ble_eq_true rfl) rfl (Nat.le_of_ble_eq_true rfl) rfl (Val.neqI rfl rfl) ?_
        refine TL.valYes rfl rfl (Nat.le_of_ble_eq_true rfl) rfl (Nat.le_of_ble_eq_true rfl) rfl (Val.move rfl) ?_
        refine TL.gen (fun g9 hg9 => ?_)
        refine TL.gval rfl rfl (Nat.le_of_ble_eq_true rfl) rfl (Nat.le_of_ble_eq_true rfl) rfl (fun hg => by subst hg; exact (Val.move rfl)) ?_
        refine TL.gval rfl rfl (Nat.le_of_ble_eq_true rfl) rfl (Nat.le_of_ble_eq_true rfl) rfl (fun hg => by subst hg; exact (Val.neqI rfl rfl)) ?_
        first
          | refine TL.valYes rfl rfl (Nat.le_of_ble_eq_true rfl) rfl (Nat.le_of_ble_eq_true rfl) rfl (Val.pickAnd rfl rfl rfl) ?_
          | refine TL.valYes rfl rfl (Nat.le_of_ble_eq_true rfl) rfl (Nat.le_of_ble_eq_true rfl) rfl (Val.pickOr rfl rfl rfl) ?_
          | refine TL.valYes rfl rfl (Nat.le_of_ble_eq_true rfl) rfl (Nat.le_of_ble_eq_true rfl) rfl (Val.pick rfl rfl rfl) ?_
        first
          | refine TL.val rfl rfl (Nat.le_of_ble_eq_true rfl) (Val.pickAnd rfl rfl rfl) ?_
          | refine TL.val rfl rfl (Nat.le_of_ble_eq_true rfl) (Val.pickOr rfl rfl rfl) ?_
          | refine TL.val rfl rfl (Nat.le_of_ble_eq_true rfl) (Val.pick rfl rfl rfl) ?_
        refine TL.nil ?_
        refine AtX.then ?_
        first | refine TC.condP rfl (fun c3 => ?_) (fun c3 => ?_) | refine TC.condN rfl (fun c3 => ?_) (fun c3 => ?_) | refine TC.condB rfl (fun c3 => ?_) (fun c3 => ?_) | refine TC.cond rfl (fun c3 => ?_) (fun c3 => ?_)
        · skip
          (exfalso; grind)
        · skip
          refine TC.skip ?_
          refine AtX.then ?_
          refine TC.join (ι := Int) (fun n3 => [(1, .slice (some ⟨bB, oB, none⟩) ls.length cB), (5, .pointer (some ⟨b2, 0, none⟩)), (6, .pointer (some ⟨b, 0, none⟩)), (7, .pointer (some ⟨bq, 0, none⟩)), (8, .int .i64 n3), (9, .int .i64 (i : Nat))]) (fun _ => (bq, row 31 ((l2 ++ List.replicate (16 - N) false).map Value.bool)) :: (b2, .cells #[.int .i64 (cf.n), .int .i64 (cf.f), .int .i64 (cf.m), .int .i64 (cf.quorum), .int .i64 (cf.fresh), .int .i64 (cf.grace), .int .i64 (cf.window), .int .i64 (cf.t0), .int .i64 (cf.t1), .int .i64 (cf.t2), .int .i64 (cf.t3), .int .i64 (cf.tol), .int .i64 (cf.min), .int .i64 (cf.max), .int .i64 (cf.calmup), .int .i64 (cf.calmdown), .int .i64 (cf.podsup), .int .i64 (cf.pctup), .int .i64 (cf.podsdown), .int .i64 (cf.pctdown), .int .i64 (cf.period), .int .i64 (cf.far), .int .i64 (cf.strikes), .int .i64 (cf.probe), .int .i64 (cf.sectors), .int .u64 (cf.seed)] 26 (0, 0)) :: wob b cf (some ⟨bl, 0, none⟩) N cl bb N none 0 0 :: (bb, row 4 ((l2).map Value.bool)) :: M) (fun n3 => n3 = ((bads l2).length : Int)) ?_ ?_
          · skip
            refine TC.seq ?_
            refine TC.region ?_
            refine TL.val rfl rfl (Nat.le_of_ble_eq_true rfl) (Val.move rfl) ?_
            refine TL.val rfl rfl (Nat.le_of_ble_eq_true rfl) (Val.move rfl) ?_
            refine TL.gen (fun g10 hg10 => ?_)
            refine TL.gval rfl rfl (Nat.le_of_ble_eq_true rfl) rfl (Nat.le_of_ble_eq_true rfl) rfl (fun hg => by subst hg; exact (Val.move rfl)) ?_
            refine TL.gval rfl rfl (Nat.le_of_ble_eq_true rfl) rfl (Nat.le_of_ble_eq_true rfl) rfl (fun hg => by subst hg; exact (Val.indexAddrA (i := k) (r := k) rfl rfl ar31 sz4 rfl (by omega) (by omega))) ?_
            refine TL.gval rfl rfl (Nat.le_of_ble_eq_true rfl) rfl (Nat.le_of_ble_eq_true rfl) rfl (fun hg => by subst hg; exact (Val.loadRd (o := 0) (j := k) (v := .bool y) rfl ag4 (rd_rowA (i := 0) rfl) (by omega) (map_get (pad_get hy)))) ?_
            refine TL.gval rfl rfl (Nat.le_of_ble_eq_true rfl) rfl (Nat.le_of_ble_eq_true rfl) rfl (fun hg => by subst hg; exact (Val.not rfl)) ?_
            first
              | refine TL.val rfl rfl (Nat.le_of_ble_eq_true rfl) (Val.pickAnd rfl rfl rfl) ?_
              | refine TL.val rfl rfl (Nat.le_of_ble_eq_true rfl) (Val.pickOr rfl rfl rfl) ?_
              | refine TL.val rfl rfl (Nat.le_of_ble_eq_true rfl) (Val.pick rfl rfl rfl) ?_
            refine TL.nil ?_
            refine AtX.then ?_
            first | refine TC.condP rfl (fun c4 => ?_) (fun c4 => ?_) | refine TC.condN rfl (fun c4 => ?_) (fun c4 => ?_) | refine TC.condB rfl (fun c4 => ?_) (fun c4 => ?_) | refine TC.cond rfl (fun c4 => ?_) (fun c4 => ?_)
            · skip
              refine TC.seq ?_
              refine TC.region ?_
              refine TL.val rfl rfl (Nat.le_of_ble_eq_true rfl) (Val.move rfl) ?_
              refine TL.val rfl rfl (Nat.le_of_ble_eq_true rfl) (Val.indexAddrA (i := k) (r := k) rfl rfl ar31 sz4 rfl (by omega) (by omega)) ?_
              refine TL.does none rfl rfl rfl (Does.storeR 0 rfl rfl rfl sz4 rfl rfl (by simp; omega) (map_set1 (f := Value.bool) (by simp; omega) true)) ?_
              rintro _ _ ⟨rfl, rfl⟩
              refine TL.nil ?_
              refine AtX.then ?_
              refine TC.region ?_
              refine TL.val rfl rfl (Nat.le_of_ble_eq_true rfl) (Val.move rfl) ?_
              refine TL.val rfl rfl (Nat.le_of_ble_eq_true rfl) (Val.add rfl rfl (r := ((bads l).length : Int) + 1) (w_i64 (by omega) (by omega))) ?_
              refine TL.val rfl rfl (Nat.le_of_ble_eq_true rfl) (Val.assign rfl) ?_
              refine TL.nil ?_
              have hmy : may = true ∧ y = false := by clear hx hy hRB hr hr2; grind
              have hcn : ((bads l2).length : Int) = ((bads l).length : Int) + 1 := by rw [hT hmy.1 hmy.2, bads_set (hmy.2 ▸ hy)]; simp
              refine AtX.join (((bads l).length : Int) + 1) ?_ (Sub.cons rfl (Sub.cons rfl (Sub.cons rfl (Sub.cons rfl (Sub.cons rfl (Sub.cons rfl (Sub.nil _))))))) (fun w h => by rw [pad_set (by omega), ← hT hmy.1 hmy.2] at h; exact h)
              exact hcn.symm
            · skip
              refine TC.skip ?_
              have hmy : may = false ∨ y = true := by clear hx hy hRB hr hr2; grind
              refine AtX.join ((bads l).length : Int) ?_ (Sub.cons rfl (Sub.cons rfl (Sub.cons rfl (Sub.cons rfl (Sub.cons rfl (Sub.cons rfl (Sub.nil _))))))) (fun w h => by have e := hF hmy; subst e; exact h)
              rw [hF hmy]
          · rintro _ rfl
            have hble3 := badTo_le l2 l2.length
            have hble4 : (bads l2).length ≤ l2.length := hble3
            refine TC.seq ?_
            refine TC.region ?_
            refine TL.val rfl rfl (Nat.le_of_ble_eq_true rfl) (Val.move rfl) ?_
            refine TL.does (some 83) rfl rfl rfl (Does.callF go15 rfl (Bad_fn b 2 3 cf _ N cl bb none 0 0 l2 _ (by rw [hl2N]; rfl) rfl (by omega))) ?_
            rintro _ _ ⟨τ, rfl, hokτ, rfl⟩
            refine TL.heap (M' := (bq, row 31 ((l2 ++ List.replicate (16 - N) false).map Value.bool)) :: (b2, .cells #[.int .i64 (cf.n), .int .i64 (cf.f), .int .i64 (cf.m), .int .i64 (cf.quorum), .int .i64 (cf.fresh), .int .i64 (cf.grace), .int .i64 (cf.window), .int .i64 (cf.t0), .int .i64 (cf.t1), .int .i64 (cf.t2), .int .i64 (cf.t3), .int .i64 (cf.tol), .int .i64 (cf.min), .int .i64 (cf.max), .int .i64 (cf.calmup), .int .i64 (cf.calmdown), .int .i64 (cf.podsup), .int .i64 (cf.pctup), .int .i64 (cf.podsdown), .int .i64 (cf.pctdown), .int .i64 (cf.period), .int .i64 (cf.far), .int .i64 (cf.strikes), .int .i64 (cf.probe), .int .i64 (cf.sectors), .int .u64 (cf.seed)] 26 (0, 0)) :: wob b cf (some ⟨bl, 0, none⟩) N cl bb N none 0 0 :: (bb, row 4 ((l2).map Value.bool)) :: (slH τ 3 ((bads l2).map (Value.int .i64)) ++ M)) (fun w h => ro_mv (L := [_, _, _, _]) w h) ?_
            refine TL.val rfl rfl (Nat.le_of_ble_eq_true rfl) (Val.assign rfl) ?_
            refine TL.nil ?_
            refine AtX.then ?_
            refine TC.seq ?_
            refine TC.seq ?_
            refine TC.region ?_
            refine TL.val rfl rfl (Nat.le_of_ble_eq_true rfl) (Val.move rfl) ?_
            refine TL.val rfl rfl (Nat.le_of_ble_eq_true rfl) (Val.lenSl rfl rfl sl22) ?_
            refine TL.val rfl rfl (Nat.le_of_ble_eq_true rfl) (Val.move rfl) ?_
            refine TL.val rfl rfl (Nat.le_of_ble_eq_true rfl) (Val.neqI rfl rfl) ?_
            refine TL.nil ?_
            refine AtX.then ?_
            first | refine TC.condP rfl (fun c5 => ?_) (fun c5 => ?_) | refine TC.condN rfl (fun c5 => ?_) (fun c5 => ?_) | refine TC.condB rfl (fun c5 => ?_) (fun c5 => ?_) | refine TC.cond rfl (fun c5 => ?_) (fun c5 => ?_)
            · skip
              exact absurd rfl c5
            · skip
              refine TC.skip ?_
              refine AtX.then ?_
              refine TC.seq ?_
              refine TC.region ?_
              refine TL.val rfl rfl (Nat.le_of_ble_eq_true rfl) (Val.assign rfl) ?_
              refine TL.nil ?_
              refine AtX.then ?_
              refine TC.block ?_
              refine TC.loop (ι := Nat) (fun j => [(1, .slice (some ⟨bB, oB, none⟩) ls.length cB), (5, .pointer (some ⟨b2, 0, none⟩)), (6, .pointer (some ⟨b, 0, none⟩)), (7, .pointer (some ⟨bq, 0, none⟩)), (8, .int .i64 ((bads l2).length : Nat)), (9, .int .i64 (i : Nat)), (13, .slice (slA τ) (bads l2).length (slC τ)), (14, .int .i64 (j : Nat))]) (fun _ => (bq, row 31 ((l2 ++ List.replicate (16 - N) false).map Value.bool)) :: (b2, .cells #[.int .i64 (cf.n), .int .i64 (cf.f), .int .i64 (cf.m), .int .i64 (cf.quorum), .int .i64 (cf.fresh), .int .i64 (cf.grace), .int .i64 (cf.window), .int .i64 (cf.t0), .int .i64 (cf.t1), .int .i64 (cf.t2), .int .i64 (cf.t3), .int .i64 (cf.tol), .int .i64 (cf.min), .int .i64 (cf.max), .int .i64 (cf.calmup), .int .i64 (cf.calmdown), .int .i64 (cf.podsup), .int .i64 (cf.pctup), .int .i64 (cf.podsdown), .int .i64 (cf.pctdown), .int .i64 (cf.period), .int .i64 (cf.far), .int .i64 (cf.strikes), .int .i64 (cf.probe), .int .i64 (cf.sectors), .int .u64 (cf.seed)] 26 (0, 0)) :: wob b cf (some ⟨bl, 0, none⟩) N cl bb N none 0 0 :: (bb, row 4 ((l2).map Value.bool)) :: (slH τ 3 ((bads l2).map (Value.int .i64)) ++ M)) (fun j => j ≤ (bads l2).length) (fun j => (bads l2).length - j) 0 ?_ (Sub.cons rfl (Sub.cons rfl (Sub.cons rfl (Sub.cons rfl (Sub.cons rfl (Sub.cons rfl (Sub.cons rfl (Sub.cons rfl (Sub.nil _))))))))) (fun _ h => h) ?_
              · exact Nat.zero_le _
              intro j hj
              refine TC.seq ?_
              refine TC.seq ?_
              refine TC.region ?_
              refine TL.val rfl rfl (Nat.le_of_ble_eq_true rfl) (Val.move rfl) ?_
              refine TL.val rfl rfl (Nat.le_of_ble_eq_true rfl) (Val.move rfl) ?_
              refine TL.val rfl rfl (Nat.le_of_ble_eq_true rfl) (Val.lenSl rfl rfl sl22) ?_
              refine TL.val rfl rfl (Nat.le_of_ble_eq_true rfl) (Val.lss rfl rfl) ?_
              refine TL.nil ?_
              refine AtX.then ?_
              first | refine TC.condP rfl (fun c6 => ?_) (fun c6 => ?_) | refine TC.condN rfl (fun c6 => ?_) (fun c6 => ?_) | refine TC.condB rfl (fun c6 => ?_) (fun c6 => ?_) | refine TC.cond rfl (fun c6 => ?_) (fun c6 => ?_)
              · skip
                refine TC.skip ?_
                refine AtX.then ?_
                refine TC.seq ?_
                refine TC.block ?_
                refine TC.seq ?_
                have hltj : j < (bads l2).length := by omega
                obtain ⟨x1, hx1⟩ : ∃ x1, (bads l2)[j]? = some x1 := ⟨_, List.getElem?_eq_getElem hltj⟩
                obtain ⟨q, hqe, hql, hqt⟩ := bads_get hx1
                subst hqe
                have hq := hx1
                obtain ⟨x2, hx2⟩ : ∃ x2, (bads l2)[j - 1]? = some x2 := ⟨_, List.getElem?_eq_getElem (by omega)⟩
                have hlt2 : 0 < j → x2 < q := fun h => bads_lt (by omega) hx2 hx1
                obtain ⟨bT, oT, hTe, hRT⟩ : ∃ bT oT : Nat, slA τ = some ⟨bT, oT, none⟩ ∧ Rd ((bq, row 31 ((l2 ++ List.replicate (16 - N) false).map Value.bool)) :: (b2, .cells #[.int .i64 (cf.n), .int .i64 (cf.f), .int .i64 (cf.m), .int .i64 (cf.quorum), .int .i64 (cf.fresh), .int .i64 (cf.grace), .int .i64 (cf.window), .int .i64 (cf.t0), .int .i64 (cf.t1), .int .i64 (cf.t2), .int .i64 (cf.t3), .int .i64 (cf.tol), .int .i64 (cf.min), .int .i64 (cf.max), .int .i64 (cf.calmup), .int .i64 (cf.calmdown), .int .i64 (cf.podsup), .int .i64 (cf.pctup), .int .i64 (cf.podsdown), .int .i64 (cf.pctdown), .int .i64 (cf.period), .int .i64 (cf.far), .int .i64 (cf.strikes), .int .i64 (cf.probe), .int .i64 (cf.sectors), .int .u64 (cf.seed)] 26 (0, 0)) :: wob b cf (some ⟨bl, 0, none⟩) N cl bb N none 0 0 :: (bb, row 4 ((l2).map Value.bool)) :: (slH τ 3 ((bads l2).map (Value.int .i64)) ++ M)) ⟨bT, oT, none⟩ ((bads l2).map (Value.int .i64)) := RdS.get (((((rdS_opt hokτ).cons _).cons _).cons _).cons _) (by simp; omega)
                rw [hTe]
                refine TC.drawLM mixed 39 ?_
                refine TA.tk 0 1 rfl rfl rfl (Val.move rfl) ?_
                refine TA.tk 1 3 rfl rfl rfl (Val.move rfl) ?_
                refine TA.tk 2 7 rfl rfl rfl (Val.indexAddr (i := j) (r := oT + j) rfl rfl sl22 sz3 rfl hltj (by omega)) ?_
                refine TA.tk 3 15 rfl rfl rfl (Val.loadRd (o := oT) (j := j) (v := .int .i64 (q : Nat)) rfl ag3 hRT rfl (map_get hq)) ?_
                refine TA.tk 4 31 rfl rfl rfl (Val.lss rfl rfl) ?_
                refine TA.tk 5 63 rfl rfl rfl (Val.move rfl) ?_
                refine TA.gen (fun g12 hg12 => ?_)
                refine TA.gtk 6 127 rfl rfl rfl rfl rfl (fun hg => by subst hg; exact (Val.move rfl)) ?_
                refine TA.gtk 7 255 rfl rfl rfl rfl rfl (fun hg => by subst hg; exact (Val.move rfl)) ?_
                refine TA.gtk 8 511 rfl rfl rfl rfl rfl (fun hg => by subst hg; exact (Val.indexAddr (i := j) (r := oT + j) rfl rfl sl22 sz3 rfl hltj (by omega))) ?_
                refine TA.gtk 9 1023 rfl rfl rfl rfl rfl (fun hg => by subst hg; exact (Val.loadRd (o := oT) (j := j) (v := .int .i64 (q : Nat)) rfl ag3 hRT rfl (map_get hq))) ?_
                refine TA.gtk 10 2047 rfl rfl rfl rfl rfl (fun hg => by subst hg; exact (Val.fieldAddr rfl fl26_0 sz3 rfl)) ?_
                first
                  | refine TA.gtk 11 4095 rfl rfl rfl rfl rfl (fun hg => by subst hg; exact (Val.load 0 rfl ag3 rfl rfl)) ?_
                  | refine TA.gtk 11 4095 rfl rfl rfl rfl rfl (fun hg => by subst hg; exact (Val.load 1 rfl ag3 rfl rfl)) ?_
                  | refine TA.gtk 11 4095 rfl rfl rfl rfl rfl (fun hg => by subst hg; exact (Val.load 2 rfl ag3 rfl rfl)) ?_
                  | refine TA.gtk 11 4095 rfl rfl rfl rfl rfl (fun hg => by subst hg; exact (Val.load 3 rfl ag3 rfl rfl)) ?_
                  | refine TA.gtk 11 4095 rfl rfl rfl rfl rfl (fun hg => by subst hg; exact (Val.load 4 rfl ag3 rfl rfl)) ?_
                  | refine TA.gtk 11 4095 rfl rfl rfl rfl rfl (fun hg => by subst hg; exact (Val.load 5 rfl ag3 rfl rfl)) ?_
                refine TA.gtk 12 8191 rfl rfl rfl rfl rfl (fun hg => by subst hg; exact (Val.geq rfl rfl)) ?_
                first
                  | refine TA.tk 13 16383 rfl rfl rfl (Val.pickAnd rfl rfl rfl) ?_
                  | refine TA.tk 13 16383 rfl rfl rfl (Val.pickOr rfl rfl rfl) ?_
                  | refine TA.tk 13 16383 rfl rfl rfl (Val.pick rfl rfl rfl) ?_
                refine TA.tk 14 32767 rfl rfl rfl (Val.move rfl) ?_
                refine TA.gen (fun g13 hg13 => ?_)
                refine TA.gtk 15 65535 rfl rfl rfl rfl rfl (fun hg => by subst hg; exact (Val.move rfl)) ?_
                refine TA.gtk 16 131071 rfl rfl rfl rfl rfl (fun hg => by subst hg; exact (Val.move rfl)) ?_
                refine TA.gtk 17 262143 rfl rfl rfl rfl rfl (fun hg => by subst hg; exact (Val.indexAddr (i := j) (r := oT + j) rfl rfl sl22 sz3 rfl hltj (by omega))) ?_
                refine TA.gtk 18 524287 rfl rfl rfl rfl rfl (fun hg => by subst hg; exact (Val.loadRd (o := oT) (j := j) (v := .int .i64 (q : Nat)) rfl ag3 hRT rfl (map_get hq))) ?_
                refine TA.gtk 19 1048575 rfl rfl rfl rfl rfl (fun hg => by subst hg; exact (Val.indexAddrA (i := q) (r := q) rfl rfl ar31 sz4 rfl (by omega) (by omega))) ?_
                refine TA.gtk 20 2097151 rfl rfl rfl rfl rfl (fun hg => by subst hg; exact (Val.loadRd (o := 0) (j := q) (v := .bool true) rfl ag4 (rd_rowA (i := 0) rfl) (by omega) (map_get (pad_get hqt)))) ?_
                refine TA.gtk 21 4194303 rfl rfl rfl rfl rfl (fun hg => by subst hg; exact (Val.not rfl)) ?_
                first
                  | refine TA.tk 22 8388607 rfl rfl rfl (Val.pickAnd rfl rfl rfl) ?_
                  | refine TA.tk 22 8388607 rfl rfl rfl (Val.pickOr rfl rfl rfl) ?_
                  | refine TA.tk 22 8388607 rfl rfl rfl (Val.pick rfl rfl rfl) ?_
                refine TA.tk 23 16777215 rfl rfl rfl (Val.move rfl) ?_
                refine TA.gen (fun g14 hg14 => ?_)
                cases g14 with
                | false =>
                  refine TA.tkY 24 33554431 rfl rfl rfl rfl rfl (Val.move rfl) ?_
                  refine TA.tkY 25 67108863 rfl rfl rfl rfl rfl (Val.gtr rfl rfl) ?_
                  refine TA.tkY 26 134217727 rfl rfl rfl rfl rfl (Val.move rfl) ?_
                  refine TA.gen (fun g15 hg15 => ?_)
                  refine TA.gtk 27 268435455 rfl rfl rfl rfl rfl (fun hg => by subst hg; exact (Val.move rfl)) ?_
                  refine TA.gtk 28 536870911 rfl rfl rfl rfl rfl (fun hg => by subst hg; exact (Val.move rfl)) ?_
                  refine TA.gtk 29 1073741823 rfl rfl rfl rfl rfl (fun hg => by subst hg; exact (Val.indexAddr (i := j) (r := oT + j) rfl rfl sl22 sz3 rfl hltj (by omega))) ?_
                  refine TA.gtk 30 2147483647 rfl rfl rfl rfl rfl (fun hg => by subst hg; exact (Val.loadRd (o := oT) (j := j) (v := .int .i64 (q : Nat)) rfl ag3 hRT rfl (map_get hq))) ?_
                  refine TA.gtk 31 4294967295 rfl rfl rfl rfl rfl (fun hg => by subst hg; exact (Val.move rfl)) ?_
                  refine TA.gtk 32 8589934591 rfl rfl rfl rfl rfl (fun hg => by subst hg; exact (Val.move rfl)) ?_
                  refine TA.gtk 33 17179869183 rfl rfl rfl rfl rfl (fun hg => by subst hg; exact (Val.sub rfl rfl (r := ((j - 1 : Nat) : Int)) (by have hj0 : 0 < j := (by grind); rw [w_i64 (by omega) (by omega)]; omega))) ?_
                  refine TA.gtk 34 34359738367 rfl rfl rfl rfl rfl (fun hg => by subst hg; exact (Val.indexAddr (i := j - 1) (r := oT + (j - 1)) rfl rfl sl22 sz3 rfl (by omega) (by omega))) ?_
                  refine TA.gtk 35 68719476735 rfl rfl rfl rfl rfl (fun hg => by subst hg; exact (Val.loadRd (o := oT) (j := j - 1) (v := .int .i64 x2) rfl ag3 hRT rfl (map_get hx2))) ?_
                  refine TA.gtk 36 137438953471 rfl rfl rfl rfl rfl (fun hg => by subst hg; exact (Val.leq rfl rfl)) ?_
                  first
                    | refine TA.tkY 37 274877906943 rfl rfl rfl rfl rfl (Val.pickAnd rfl rfl rfl) ?_
                    | refine TA.tkY 37 274877906943 rfl rfl rfl rfl rfl (Val.pickOr rfl rfl rfl) ?_
                    | refine TA.tkY 37 274877906943 rfl rfl rfl rfl rfl (Val.pick rfl rfl rfl) ?_
                  first
                    | refine TA.tk 38 549755813887 rfl rfl rfl (Val.pickAnd rfl rfl rfl) ?_
                    | refine TA.tk 38 549755813887 rfl rfl rfl (Val.pickOr rfl rfl rfl) ?_
                    | refine TA.tk 38 549755813887 rfl rfl rfl (Val.pick rfl rfl rfl) ?_
                  refine TA.done (by kernel_rfl) ?_
                  refine AtX.then ?_
                  first | refine TC.condP rfl (fun c7 => ?_) (fun c7 => ?_) | refine TC.condN rfl (fun c7 => ?_) (fun c7 => ?_) | refine TC.condB rfl (fun c7 => ?_) (fun c7 => ?_) | refine TC.cond rfl (fun c7 => ?_) (fun c7 => ?_)
                  · skip
                    (exfalso; clear hx hy hq hx2 hqt hRT hRB hokτ; grind)
                  · skip
                    refine TC.skip ?_
                    refine AtX.blk ?_
                    refine AtX.then ?_
                    refine TC.region ?_
                    refine TL.val rfl rfl (Nat.le_of_ble_eq_true rfl) (Val.move rfl) ?_
                    first
                      | refine TL.val rfl rfl (Nat.le_of_ble_eq_true rfl) (Val.add rfl rfl (w_i64 (by omega) (by omega))) ?_
                      | refine TL.val rfl rfl (Nat.le_of_ble_eq_true rfl) (Val.add rfl rfl rfl) ?_
                    refine TL.val rfl rfl (Nat.le_of_ble_eq_true rfl) (Val.assign rfl) ?_
                    refine TL.nil ?_
                    refine AtX.round (j + 1) ?_ ?_ (Sub.cons rfl (Sub.cons rfl (Sub.cons rfl (Sub.cons rfl (Sub.cons rfl (Sub.cons rfl (Sub.cons rfl (Sub.cons rfl (Sub.nil _))))))))) (fun _ h => h)
                    · omega
                    · omega
                | true =>
                  refine TA.tkP 24 33554431 rfl rfl rfl rfl rfl rfl ?_
                  refine TA.tkP 25 67108863 rfl rfl rfl rfl rfl rfl ?_
                  refine TA.tkP 26 134217727 rfl rfl rfl rfl rfl rfl ?_
                  refine TA.tkU 27 268435455 rfl rfl rfl rfl rfl ?_
                  refine TA.tkU 28 536870911 rfl rfl rfl rfl rfl ?_
                  refine TA.tkU 29 1073741823 rfl rfl rfl rfl rfl ?_
                  refine TA.tkU 30 2147483647 rfl rfl rfl rfl rfl ?_
                  refine TA.tkU 31 4294967295 rfl rfl rfl rfl rfl ?_
                  refine TA.tkU 32 8589934591 rfl rfl rfl rfl rfl ?_
                  refine TA.tkU 33 17179869183 rfl rfl rfl rfl rfl ?_
                  refine TA.tkU 34 34359738367 rfl rfl rfl rfl rfl ?_
                  refine TA.tkU 35 68719476735 rfl rfl rfl rfl rfl ?_
                  refine TA.tkU 36 137438953471 rfl rfl rfl rfl rfl ?_
                  refine TA.tkP 37 274877906943 rfl rfl rfl rfl rfl rfl ?_
                  first
                    | refine TA.tk 38 549755813887 rfl rfl rfl (Val.pickAnd rfl rfl rfl) ?_
                    | refine TA.tk 38 549755813887 rfl rfl rfl (Val.pickOr rfl rfl rfl) ?_
                    | refine TA.tk 38 549755813887 rfl rfl rfl (Val.pick rfl rfl rfl) ?_
                  refine TA.done (by kernel_rfl) ?_
                  refine AtX.then ?_
                  first | refine TC.condP rfl (fun c8 => ?_) (fun c8 => ?_) | refine TC.condN rfl (fun c8 => ?_) (fun c8 => ?_) | refine TC.condB rfl (fun c8 => ?_) (fun c8 => ?_) | refine TC.cond rfl (fun c8 => ?_) (fun c8 => ?_)
                  · skip
                    (exfalso; clear hx hy hq hx2 hqt hRT hRB hokτ; grind)
                  · skip
                    refine TC.skip ?_
                    refine AtX.blk ?_
                    refine AtX.then ?_
                    refine TC.region ?_
                    refine TL.val rfl rfl (Nat.le_of_ble_eq_true rfl) (Val.move rfl) ?_
                    first
                      | refine TL.val rfl rfl (Nat.le_of_ble_eq_true rfl) (Val.add rfl rfl (w_i64 (by omega) (by omega))) ?_
                      | refine TL.val rfl rfl (Nat.le_of_ble_eq_true rfl) (Val.add rfl rfl rfl) ?_
                    refine TL.val rfl rfl (Nat.le_of_ble_eq_true rfl) (Val.assign rfl) ?_
                    refine TL.nil ?_
                    refine AtX.round (j + 1) ?_ ?_ (Sub.cons rfl (Sub.cons rfl (Sub.cons rfl (Sub.cons rfl (Sub.cons rfl (Sub.cons rfl (Sub.cons rfl (Sub.cons rfl (Sub.nil _))))))))) (fun _ h => h)
                    · omega
                    · omega
              · skip
                refine TC.exit ?_
                refine AtX.seqX ?_
                refine AtX.seqX ?_
                refine AtX.hit ?_
                refine AtX.blk ?_
                refine AtX.then ?_
                refine TC.region ?_
                refine TL.val rfl rfl (Nat.le_of_ble_eq_true rfl) (Val.move rfl) ?_
                first
                  | refine TL.val rfl rfl (Nat.le_of_ble_eq_true rfl) (Val.add rfl rfl (w_i64 (by omega) (by omega))) ?_
                  | refine TL.val rfl rfl (Nat.le_of_ble_eq_true rfl) (Val.add rfl rfl rfl) ?_
                refine TL.val rfl rfl (Nat.le_of_ble_eq_true rfl) (Val.assign rfl) ?_
                refine TL.nil ?_
                refine AtX.round (i := (i, l)) (i + 1, l2) ?_ ?_ (Sub.cons rfl (Sub.cons rfl (Sub.cons rfl (Sub.cons rfl (Sub.cons rfl (Sub.cons rfl (Sub.nil _))))))) ro_d4
                · exact ⟨by omega, hl2N⟩
                · show ls.length - (i + 1) < ls.length - i; omega
      | true =>
        refine TL.pass rfl rfl (Nat.le_of_ble_eq_true rfl) rfl (Nat.le_of_ble_eq_true rfl) rfl rfl ?_
        refine TL.pass rfl rfl (Nat.le_of_ble_eq_true rfl) rfl (Nat.le_of_ble_eq_true rfl) rfl rfl ?_
        refine TL.pass rfl rfl (Nat.le_of_ble_eq_true rfl) rfl (Nat.le_of_ble_eq_true rfl) rfl rfl ?_
        refine TL.passU rfl rfl (Nat.le_of_ble_eq_true rfl) rfl (Nat.le_of_ble_eq_true rfl) rfl ?_
        refine TL.passU rfl rfl (Nat.le_of_ble_eq_true rfl) rfl (Nat.le_of_ble_eq_true rfl) rfl ?_
        refine TL.pass rfl rfl (Nat.le_of_ble_eq_true rfl) rfl (Nat.le_of_ble_eq_true rfl) rfl rfl ?_
        first
          | refine TL.val rfl rfl (Nat.le_of_ble_eq_true rfl) (Val.pickAnd rfl rfl rfl) ?_
          | refine TL.val rfl rfl (Nat.le_of_ble_eq_true rfl) (Val.pickOr rfl rfl rfl) ?_
          | refine TL.val rfl rfl (Nat.le_of_ble_eq_true rfl) (Val.pick rfl rfl rfl) ?_
        refine TL.nil ?_
        refine AtX.then ?_
        first | refine TC.condP rfl (fun c9 => ?_) (fun c9 => ?_) | refine TC.condN rfl (fun c9 => ?_) (fun c9 => ?_) | refine TC.condB rfl (fun c9 => ?_) (fun c9 => ?_) | refine TC.cond rfl (fun c9 => ?_) (fun c9 => ?_)
        · skip
          (exfalso; grind)
        · skip
          refine TC.skip ?_
          refine AtX.then ?_
          refine TC.join (ι := Int) (fun n3 => [(1, .slice (some ⟨bB, oB, none⟩) ls.length cB), (5, .pointer (some ⟨b2, 0, none⟩)), (6, .pointer (some ⟨b, 0, none⟩)), (7, .pointer (some ⟨bq, 0, none⟩)), (8, .int .i64 n3), (9, .int .i64 (i : Nat))]) (fun _ => (bq, row 31 ((l2 ++ List.replicate (16 - N) false).map Value.bool)) :: (b2, .cells #[.int .i64 (cf.n), .int .i64 (cf.f), .int .i64 (cf.m), .int .i64 (cf.quorum), .int .i64 (cf.fresh), .int .i64 (cf.grace), .int .i64 (cf.window), .int .i64 (cf.t0), .int .i64 (cf.t1), .int .i64 (cf.t2), .int .i64 (cf.t3), .int .i64 (cf.tol), .int .i64 (cf.min), .int .i64 (cf.max), .int .i64 (cf.calmup), .int .i64 (cf.calmdown), .int .i64 (cf.podsup), .int .i64 (cf.pctup), .int .i64 (cf.podsdown), .int .i64 (cf.pctdown), .int .i64 (cf.period), .int .i64 (cf.far), .int .i64 (cf.strikes), .int .i64 (cf.probe), .int .i64 (cf.sectors), .int .u64 (cf.seed)] 26 (0, 0)) :: wob b cf (some ⟨bl, 0, none⟩) N cl bb N none 0 0 :: (bb, row 4 ((l2).map Value.bool)) :: M) (fun n3 => n3 = ((bads l2).length : Int)) ?_ ?_
          · skip
            refine TC.seq ?_
            refine TC.region ?_
            refine TL.val rfl rfl (Nat.le_of_ble_eq_true rfl) (Val.move rfl) ?_
            refine TL.val rfl rfl (Nat.le_of_ble_eq_true rfl) (Val.move rfl) ?_
            refine TL.gen (fun g16 hg16 => ?_)
            refine TL.gval rfl rfl (Nat.le_of_ble_eq_true rfl) rfl (Nat.le_of_ble_eq_true rfl) rfl (fun hg => by subst hg; exact (Val.move rfl)) ?_
            refine TL.gval rfl rfl (Nat.le_of_ble_eq_true rfl) rfl (Nat.le_of_ble_eq_true rfl) rfl (fun hg => by subst hg; exact (Val.indexAddrA (i := k) (r := k) rfl rfl ar31 sz4 rfl (by omega) (by omega))) ?_
            refine TL.gval rfl rfl (Nat.le_of_ble_eq_true rfl) rfl (Nat.le_of_ble_eq_true rfl) rfl (fun hg => by subst hg; exact (Val.loadRd (o := 0) (j := k) (v := .bool y) rfl ag4 (rd_rowA (i := 0) rfl) (by omega) (map_get (pad_get hy)))) ?_
            refine TL.gval rfl rfl (Nat.le_of_ble_eq_true rfl) rfl (Nat.le_of_ble_eq_true rfl) rfl (fun hg => by subst hg; exact (Val.not rfl)) ?_
            first
              | refine TL.val rfl rfl (Nat.le_of_ble_eq_true rfl) (Val.pickAnd rfl rfl rfl) ?_
              | refine TL.val rfl rfl (Nat.le_of_ble_eq_true rfl) (Val.pickOr rfl rfl rfl) ?_
              | refine TL.val rfl rfl (Nat.le_of_ble_eq_true rfl) (Val.pick rfl rfl rfl) ?_
            refine TL.nil ?_
            refine AtX.then ?_
            first | refine TC.condP rfl (fun c10 => ?_) (fun c10 => ?_) | refine TC.condN rfl (fun c10 => ?_) (fun c10 => ?_) | refine TC.condB rfl (fun c10 => ?_) (fun c10 => ?_) | refine TC.cond rfl (fun c10 => ?_) (fun c10 => ?_)
            · skip
              refine TC.seq ?_
              refine TC.region ?_
              refine TL.val rfl rfl (Nat.le_of_ble_eq_true rfl) (Val.move rfl) ?_
              refine TL.val rfl rfl (Nat.le_of_ble_eq_true rfl) (Val.indexAddrA (i := k) (r := k) rfl rfl ar31 sz4 rfl (by omega) (by omega)) ?_
              refine TL.does none rfl rfl rfl (Does.storeR 0 rfl rfl rfl sz4 rfl rfl (by simp; omega) (map_set1 (f := Value.bool) (by simp; omega) true)) ?_
              rintro _ _ ⟨rfl, rfl⟩
              refine TL.nil ?_
              refine AtX.then ?_
              refine TC.region ?_
              refine TL.val rfl rfl (Nat.le_of_ble_eq_true rfl) (Val.move rfl) ?_
              refine TL.val rfl rfl (Nat.le_of_ble_eq_true rfl) (Val.add rfl rfl (r := ((bads l).length : Int) + 1) (w_i64 (by omega) (by omega))) ?_
              refine TL.val rfl rfl (Nat.le_of_ble_eq_true rfl) (Val.assign rfl) ?_
              refine TL.nil ?_
              have hmy : may = true ∧ y = false := by clear hx hy hRB hr hr2; grind
              have hcn : ((bads l2).length : Int) = ((bads l).length : Int) + 1 := by rw [hT hmy.1 hmy.2, bads_set (hmy.2 ▸ hy)]; simp
              refine AtX.join (((bads l).length : Int) + 1) ?_ (Sub.cons rfl (Sub.cons rfl (Sub.cons rfl (Sub.cons rfl (Sub.cons rfl (Sub.cons rfl (Sub.nil _))))))) (fun w h => by rw [pad_set (by omega), ← hT hmy.1 hmy.2] at h; exact h)
              exact hcn.symm
            · skip
              refine TC.skip ?_
              have hmy : may = false ∨ y = true := by clear hx hy hRB hr hr2; grind
              refine AtX.join ((bads l).length : Int) ?_ (Sub.cons rfl (Sub.cons rfl (Sub.cons rfl (Sub.cons rfl (Sub.cons rfl (Sub.cons rfl (Sub.nil _))))))) (fun w h => by have e := hF hmy; subst e; exact h)
              rw [hF hmy]
          · rintro _ rfl
            have hble3 := badTo_le l2 l2.length
            have hble4 : (bads l2).length ≤ l2.length := hble3
            refine TC.seq ?_
            refine TC.region ?_
            refine TL.val rfl rfl (Nat.le_of_ble_eq_true rfl) (Val.move rfl) ?_
            refine TL.does (some 83) rfl rfl rfl (Does.callF go15 rfl (Bad_fn b 2 3 cf _ N cl bb none 0 0 l2 _ (by rw [hl2N]; rfl) rfl (by omega))) ?_
            rintro _ _ ⟨τ, rfl, hokτ, rfl⟩
            refine TL.heap (M' := (bq, row 31 ((l2 ++ List.replicate (16 - N) false).map Value.bool)) :: (b2, .cells #[.int .i64 (cf.n), .int .i64 (cf.f), .int .i64 (cf.m), .int .i64 (cf.quorum), .int .i64 (cf.fresh), .int .i64 (cf.grace), .int .i64 (cf.window), .int .i64 (cf.t0), .int .i64 (cf.t1), .int .i64 (cf.t2), .int .i64 (cf.t3), .int .i64 (cf.tol), .int .i64 (cf.min), .int .i64 (cf.max), .int .i64 (cf.calmup), .int .i64 (cf.calmdown), .int .i64 (cf.podsup), .int .i64 (cf.pctup), .int .i64 (cf.podsdown), .int .i64 (cf.pctdown), .int .i64 (cf.period), .int .i64 (cf.far), .int .i64 (cf.strikes), .int .i64 (cf.probe), .int .i64 (cf.sectors), .int .u64 (cf.seed)] 26 (0, 0)) :: wob b cf (some ⟨bl, 0, none⟩) N cl bb N none 0 0 :: (bb, row 4 ((l2).map Value.bool)) :: (slH τ 3 ((bads l2).map (Value.int .i64)) ++ M)) (fun w h => ro_mv (L := [_, _, _, _]) w h) ?_
            refine TL.val rfl rfl (Nat.le_of_ble_eq_true rfl) (Val.assign rfl) ?_
            refine TL.nil ?_
            refine AtX.then ?_
            refine TC.seq ?_
            refine TC.seq ?_
            refine TC.region ?_
            refine TL.val rfl rfl (Nat.le_of_ble_eq_true rfl) (Val.move rfl) ?_
            refine TL.val rfl rfl (Nat.le_of_ble_eq_true rfl) (Val.lenSl rfl rfl sl22) ?_
            refine TL.val rfl rfl (Nat.le_of_ble_eq_true rfl) (Val.move rfl) ?_
            refine TL.val rfl rfl (Nat.le_of_ble_eq_true rfl) (Val.neqI rfl rfl) ?_
            refine TL.nil ?_
            refine AtX.then ?_
            first | refine TC.condP rfl (fun c11 => ?_) (fun c11 => ?_) | refine TC.condN rfl (fun c11 => ?_) (fun c11 => ?_) | refine TC.condB rfl (fun c11 => ?_) (fun c11 => ?_) | refine TC.cond rfl (fun c11 => ?_) (fun c11 => ?_)
            · skip
              exact absurd rfl c11
            · skip
              refine TC.skip ?_
              refine AtX.then ?_
              refine TC.seq ?_
              refine TC.region ?_
              refine TL.val rfl rfl (Nat.le_of_ble_eq_true rfl) (Val.assign rfl) ?_
              refine TL.nil ?_
              refine AtX.then ?_
              refine TC.block ?_
              refine TC.loop (ι := Nat) (fun j => [(1, .slice (some ⟨bB, oB, none⟩) ls.length cB), (5, .pointer (some ⟨b2, 0, none⟩)), (6, .pointer (some ⟨b, 0, none⟩)), (7, .pointer (some ⟨bq, 0, none⟩)), (8, .int .i64 ((bads l2).length : Nat)), (9, .int .i64 (i : Nat)), (13, .slice (slA τ) (bads l2).length (slC τ)), (14, .int .i64 (j : Nat))]) (fun _ => (bq, row 31 ((l2 ++ List.replicate (16 - N) false).map Value.bool)) :: (b2, .cells #[.int .i64 (cf.n), .int .i64 (cf.f), .int .i64 (cf.m), .int .i64 (cf.quorum), .int .i64 (cf.fresh), .int .i64 (cf.grace), .int .i64 (cf.window), .int .i64 (cf.t0), .int .i64 (cf.t1), .int .i64 (cf.t2), .int .i64 (cf.t3), .int .i64 (cf.tol), .int .i64 (cf.min), .int .i64 (cf.max), .int .i64 (cf.calmup), .int .i64 (cf.calmdown), .int .i64 (cf.podsup), .int .i64 (cf.pctup), .int .i64 (cf.podsdown), .int .i64 (cf.pctdown), .int .i64 (cf.period), .int .i64 (cf.far), .int .i64 (cf.strikes), .int .i64 (cf.probe), .int .i64 (cf.sectors), .int .u64 (cf.seed)] 26 (0, 0)) :: wob b cf (some ⟨bl, 0, none⟩) N cl bb N none 0 0 :: (bb, row 4 ((l2).map Value.bool)) :: (slH τ 3 ((bads l2).map (Value.int .i64)) ++ M)) (fun j => j ≤ (bads l2).length) (fun j => (bads l2).length - j) 0 ?_ (Sub.cons rfl (Sub.cons rfl (Sub.cons rfl (Sub.cons rfl (Sub.cons rfl (Sub.cons rfl (Sub.cons rfl (Sub.cons rfl (Sub.nil _))))))))) (fun _ h => h) ?_
              · exact Nat.zero_le _
              intro j hj
              refine TC.seq ?_
              refine TC.seq ?_
              refine TC.region ?_
              refine TL.val rfl rfl (Nat.le_of_ble_eq_true rfl) (Val.move rfl) ?_
              refine TL.val rfl rfl (Nat.le_of_ble_eq_true rfl) (Val.move rfl) ?_
              refine TL.val rfl rfl (Nat.le_of_ble_eq_true rfl) (Val.lenSl rfl rfl sl22) ?_
              refine TL.val rfl rfl (Nat.le_of_ble_eq_true rfl) (Val.lss rfl rfl) ?_
              refine TL.nil ?_
              refine AtX.then ?_
              first | refine TC.condP rfl (fun c12 => ?_) (fun c12 => ?_) | refine TC.condN rfl (fun c12 => ?_) (fun c12 => ?_) | refine TC.condB rfl (fun c12 => ?_) (fun c12 => ?_) | refine TC.cond rfl (fun c12 => ?_) (fun c12 => ?_)
              · skip
                refine TC.skip ?_
                refine AtX.then ?_
                refine TC.seq ?_
                refine TC.block ?_
                refine TC.seq ?_
                have hltj : j < (bads l2).length := by omega
                obtain ⟨x1, hx1⟩ : ∃ x1, (bads l2)[j]? = some x1 := ⟨_, List.getElem?_eq_getElem hltj⟩
                obtain ⟨q, hqe, hql, hqt⟩ := bads_get hx1
                subst hqe
                have hq := hx1
                obtain ⟨x2, hx2⟩ : ∃ x2, (bads l2)[j - 1]? = some x2 := ⟨_, List.getElem?_eq_getElem (by omega)⟩
                have hlt2 : 0 < j → x2 < q := fun h => bads_lt (by omega) hx2 hx1
                obtain ⟨bT, oT, hTe, hRT⟩ : ∃ bT oT : Nat, slA τ = some ⟨bT, oT, none⟩ ∧ Rd ((bq, row 31 ((l2 ++ List.replicate (16 - N) false).map Value.bool)) :: (b2, .cells #[.int .i64 (cf.n), .int .i64 (cf.f), .int .i64 (cf.m), .int .i64 (cf.quorum), .int .i64 (cf.fresh), .int .i64 (cf.grace), .int .i64 (cf.window), .int .i64 (cf.t0), .int .i64 (cf.t1), .int .i64 (cf.t2), .int .i64 (cf.t3), .int .i64 (cf.tol), .int .i64 (cf.min), .int .i64 (cf.max), .int .i64 (cf.calmup), .int .i64 (cf.calmdown), .int .i64 (cf.podsup), .int .i64 (cf.pctup), .int .i64 (cf.podsdown), .int .i64 (cf.pctdown), .int .i64 (cf.period), .int .i64 (cf.far), .int .i64 (cf.strikes), .int .i64 (cf.probe), .int .i64 (cf.sectors), .int .u64 (cf.seed)] 26 (0, 0)) :: wob b cf (some ⟨bl, 0, none⟩) N cl bb N none 0 0 :: (bb, row 4 ((l2).map Value.bool)) :: (slH τ 3 ((bads l2).map (Value.int .i64)) ++ M)) ⟨bT, oT, none⟩ ((bads l2).map (Value.int .i64)) := RdS.get (((((rdS_opt hokτ).cons _).cons _).cons _).cons _) (by simp; omega)
                rw [hTe]
                refine TC.drawLM mixed 39 ?_
                refine TA.tk 0 1 rfl rfl rfl (Val.move rfl) ?_
                refine TA.tk 1 3 rfl rfl rfl (Val.move rfl) ?_
                refine TA.tk 2 7 rfl rfl rfl (Val.indexAddr (i := j) (r := oT + j) rfl rfl sl22 sz3 rfl hltj (by omega)) ?_
                refine TA.tk 3 15 rfl rfl rfl (Val.loadRd (o := oT) (j := j) (v := .int .i64 (q : Nat)) rfl ag3 hRT rfl (map_get hq)) ?_
                refine TA.tk 4 31 rfl rfl rfl (Val.lss rfl rfl) ?_
                refine TA.tk 5 63 rfl rfl rfl (Val.move rfl) ?_
                refine TA.gen (fun g18 hg18 => ?_)
                refine TA.gtk 6 127 rfl rfl rfl rfl rfl (fun hg => by subst hg; exact (Val.move rfl)) ?_
                refine TA.gtk 7 255 rfl rfl rfl rfl rfl (fun hg => by subst hg; exact (Val.move rfl)) ?_
                refine TA.gtk 8 511 rfl rfl rfl rfl rfl (fun hg => by subst hg; exact (Val.indexAddr (i := j) (r := oT + j) rfl rfl sl22 sz3 rfl hltj (by omega))) ?_
                refine TA.gtk 9 1023 rfl rfl rfl rfl rfl (fun hg => by subst hg; exact (Val.loadRd (o := oT) (j := j) (v := .int .i64 (q : Nat)) rfl ag3 hRT rfl (map_get hq))) ?_
                refine TA.gtk 10 2047 rfl rfl rfl rfl rfl (fun hg => by subst hg; exact (Val.fieldAddr rfl fl26_0 sz3 rfl)) ?_
                first
                  | refine TA.gtk 11 4095 rfl rfl rfl rfl rfl (fun hg => by subst hg; exact (Val.load 0 rfl ag3 rfl rfl)) ?_
                  | refine TA.gtk 11 4095 rfl rfl rfl rfl rfl (fun hg => by subst hg; exact (Val.load 1 rfl ag3 rfl rfl)) ?_
                  | refine TA.gtk 11 4095 rfl rfl rfl rfl rfl (fun hg => by subst hg; exact (Val.load 2 rfl ag3 rfl rfl)) ?_
                  | refine TA.gtk 11 4095 rfl rfl rfl rfl rfl (fun hg => by subst hg; exact (Val.load 3 rfl ag3 rfl rfl)) ?_
                  | refine TA.gtk 11 4095 rfl rfl rfl rfl rfl (fun hg => by subst hg; exact (Val.load 4 rfl ag3 rfl rfl)) ?_
                  | refine TA.gtk 11 4095 rfl rfl rfl rfl rfl (fun hg => by subst hg; exact (Val.load 5 rfl ag3 rfl rfl)) ?_
                refine TA.gtk 12 8191 rfl rfl rfl rfl rfl (fun hg => by subst hg; exact (Val.geq rfl rfl)) ?_
                first
                  | refine TA.tk 13 16383 rfl rfl rfl (Val.pickAnd rfl rfl rfl) ?_
                  | refine TA.tk 13 16383 rfl rfl rfl (Val.pickOr rfl rfl rfl) ?_
                  | refine TA.tk 13 16383 rfl rfl rfl (Val.pick rfl rfl rfl) ?_
                refine TA.tk 14 32767 rfl rfl rfl (Val.move rfl) ?_
                refine TA.gen (fun g19 hg19 => ?_)
                refine TA.gtk 15 65535 rfl rfl rfl rfl rfl (fun hg => by subst hg; exact (Val.move rfl)) ?_
                refine TA.gtk 16 131071 rfl rfl rfl rfl rfl (fun hg => by subst hg; exact (Val.move rfl)) ?_
                refine TA.gtk 17 262143 rfl rfl rfl rfl rfl (fun hg => by subst hg; exact (Val.indexAddr (i := j) (r := oT + j) rfl rfl sl22 sz3 rfl hltj (by omega))) ?_
                refine TA.gtk 18 524287 rfl rfl rfl rfl rfl (fun hg => by subst hg; exact (Val.loadRd (o := oT) (j := j) (v := .int .i64 (q : Nat)) rfl ag3 hRT rfl (map_get hq))) ?_
                refine TA.gtk 19 1048575 rfl rfl rfl rfl rfl (fun hg => by subst hg; exact (Val.indexAddrA (i := q) (r := q) rfl rfl ar31 sz4 rfl (by omega) (by omega))) ?_
                refine TA.gtk 20 2097151 rfl rfl rfl rfl rfl (fun hg => by subst hg; exact (Val.loadRd (o := 0) (j := q) (v := .bool true) rfl ag4 (rd_rowA (i := 0) rfl) (by omega) (map_get (pad_get hqt)))) ?_
                refine TA.gtk 21 4194303 rfl rfl rfl rfl rfl (fun hg => by subst hg; exact (Val.not rfl)) ?_
                first
                  | refine TA.tk 22 8388607 rfl rfl rfl (Val.pickAnd rfl rfl rfl) ?_
                  | refine TA.tk 22 8388607 rfl rfl rfl (Val.pickOr rfl rfl rfl) ?_
                  | refine TA.tk 22 8388607 rfl rfl rfl (Val.pick rfl rfl rfl) ?_
                refine TA.tk 23 16777215 rfl rfl rfl (Val.move rfl) ?_
                refine TA.gen (fun g20 hg20 => ?_)
                cases g20 with
                | false =>
                  refine TA.tkY 24 33554431 rfl rfl rfl rfl rfl (Val.move rfl) ?_
                  refine TA.tkY 25 67108863 rfl rfl rfl rfl rfl (Val.gtr rfl rfl) ?_
                  refine TA.tkY 26 134217727 rfl rfl rfl rfl rfl (Val.move rfl) ?_
                  refine TA.gen (fun g21 hg21 => ?_)
                  refine TA.gtk 27 268435455 rfl rfl rfl rfl rfl (fun hg => by subst hg; exact (Val.move rfl)) ?_
                  refine TA.gtk 28 536870911 rfl rfl rfl rfl rfl (fun hg => by subst hg; exact (Val.move rfl)) ?_
                  refine TA.gtk 29 1073741823 rfl rfl rfl rfl rfl (fun hg => by subst hg; exact (Val.indexAddr (i := j) (r := oT + j) rfl rfl sl22 sz3 rfl hltj (by omega))) ?_
                  refine TA.gtk 30 2147483647 rfl rfl rfl rfl rfl (fun hg => by subst hg; exact (Val.loadRd (o := oT) (j := j) (v := .int .i64 (q : Nat)) rfl ag3 hRT rfl (map_get hq))) ?_
                  refine TA.gtk 31 4294967295 rfl rfl rfl rfl rfl (fun hg => by subst hg; exact (Val.move rfl)) ?_
                  refine TA.gtk 32 8589934591 rfl rfl rfl rfl rfl (fun hg => by subst hg; exact (Val.move rfl)) ?_
                  refine TA.gtk 33 17179869183 rfl rfl rfl rfl rfl (fun hg => by subst hg; exact (Val.sub rfl rfl (r := ((j - 1 : Nat) : Int)) (by have hj0 : 0 < j := (by grind); rw [w_i64 (by omega) (by omega)]; omega))) ?_
                  refine TA.gtk 34 34359738367 rfl rfl rfl rfl rfl (fun hg => by subst hg; exact (Val.indexAddr (i := j - 1) (r := oT + (j - 1)) rfl rfl sl22 sz3 rfl (by omega) (by omega))) ?_
                  refine TA.gtk 35 68719476735 rfl rfl rfl rfl rfl (fun hg => by subst hg; exact (Val.loadRd (o := oT) (j := j - 1) (v := .int .i64 x2) rfl ag3 hRT rfl (map_get hx2))) ?_
                  refine TA.gtk 36 137438953471 rfl rfl rfl rfl rfl (fun hg => by subst hg; exact (Val.leq rfl rfl)) ?_
                  first
                    | refine TA.tkY 37 274877906943 rfl rfl rfl rfl rfl (Val.pickAnd rfl rfl rfl) ?_
                    | refine TA.tkY 37 274877906943 rfl rfl rfl rfl rfl (Val.pickOr rfl rfl rfl) ?_
                    | refine TA.tkY 37 274877906943 rfl rfl rfl rfl rfl (Val.pick rfl rfl rfl) ?_
                  first
                    | refine TA.tk 38 549755813887 rfl rfl rfl (Val.pickAnd rfl rfl rfl) ?_
                    | refine TA.tk 38 549755813887 rfl rfl rfl (Val.pickOr rfl rfl rfl) ?_
                    | refine TA.tk 38 549755813887 rfl rfl rfl (Val.pick rfl rfl rfl) ?_
                  refine TA.done (by kernel_rfl) ?_
                  refine AtX.then ?_
                  first | refine TC.condP rfl (fun c13 => ?_) (fun c13 => ?_) | refine TC.condN rfl (fun c13 => ?_) (fun c13 => ?_) | refine TC.condB rfl (fun c13 => ?_) (fun c13 => ?_) | refine TC.cond rfl (fun c13 => ?_) (fun c13 => ?_)
                  · skip
                    (exfalso; clear hx hy hq hx2 hqt hRT hRB hokτ; grind)
                  · skip
                    refine TC.skip ?_
                    refine AtX.blk ?_
                    refine AtX.then ?_
                    refine TC.region ?_
                    refine TL.val rfl rfl (Nat.le_of_ble_eq_true rfl) (Val.move rfl) ?_
                    first
                      | refine TL.val rfl rfl (Nat.le_of_ble_eq_true rfl) (Val.add rfl rfl (w_i64 (by omega) (by omega))) ?_
                      | refine TL.val rfl rfl (Nat.le_of_ble_eq_true rfl) (Val.add rfl rfl rfl) ?_
                    refine TL.val rfl rfl (Nat.le_of_ble_eq_true rfl) (Val.assign rfl) ?_
                    refine TL.nil ?_
                    refine AtX.round (j + 1) ?_ ?_ (Sub.cons rfl (Sub.cons rfl (Sub.cons rfl (Sub.cons rfl (Sub.cons rfl (Sub.cons rfl (Sub.cons rfl (Sub.cons rfl (Sub.nil _))))))))) (fun _ h => h)
                    · omega
                    · omega
                | true =>
                  refine TA.tkP 24 33554431 rfl rfl rfl rfl rfl rfl ?_
                  refine TA.tkP 25 67108863 rfl rfl rfl rfl rfl rfl ?_
                  refine TA.tkP 26 134217727 rfl rfl rfl rfl rfl rfl ?_
                  refine TA.tkU 27 268435455 rfl rfl rfl rfl rfl ?_
                  refine TA.tkU 28 536870911 rfl rfl rfl rfl rfl ?_
                  refine TA.tkU 29 1073741823 rfl rfl rfl rfl rfl ?_
                  refine TA.tkU 30 2147483647 rfl rfl rfl rfl rfl ?_
                  refine TA.tkU 31 4294967295 rfl rfl rfl rfl rfl ?_
                  refine TA.tkU 32 8589934591 rfl rfl rfl rfl rfl ?_
                  refine TA.tkU 33 17179869183 rfl rfl rfl rfl rfl ?_
                  refine TA.tkU 34 34359738367 rfl rfl rfl rfl rfl ?_
                  refine TA.tkU 35 68719476735 rfl rfl rfl rfl rfl ?_
                  refine TA.tkU 36 137438953471 rfl rfl rfl rfl rfl ?_
                  refine TA.tkP 37 274877906943 rfl rfl rfl rfl rfl rfl ?_
                  first
                    | refine TA.tk 38 549755813887 rfl rfl rfl (Val.pickAnd rfl rfl rfl) ?_
                    | refine TA.tk 38 549755813887 rfl rfl rfl (Val.pickOr rfl rfl rfl) ?_
                    | refine TA.tk 38 549755813887 rfl rfl rfl (Val.pick rfl rfl rfl) ?_
                  refine TA.done (by kernel_rfl) ?_
                  refine AtX.then ?_
                  first | refine TC.condP rfl (fun c14 => ?_) (fun c14 => ?_) | refine TC.condN rfl (fun c14 => ?_) (fun c14 => ?_) | refine TC.condB rfl (fun c14 => ?_) (fun c14 => ?_) | refine TC.cond rfl (fun c14 => ?_) (fun c14 => ?_)
                  · skip
                    (exfalso; clear hx hy hq hx2 hqt hRT hRB hokτ; grind)
                  · skip
                    refine TC.skip ?_
                    refine AtX.blk ?_
                    refine AtX.then ?_
                    refine TC.region ?_
                    refine TL.val rfl rfl (Nat.le_of_ble_eq_true rfl) (Val.move rfl) ?_
                    first
                      | refine TL.val rfl rfl (Nat.le_of_ble_eq_true rfl) (Val.add rfl rfl (w_i64 (by omega) (by omega))) ?_
                      | refine TL.val rfl rfl (Nat.le_of_ble_eq_true rfl) (Val.add rfl rfl rfl) ?_
                    refine TL.val rfl rfl (Nat.le_of_ble_eq_true rfl) (Val.assign rfl) ?_
                    refine TL.nil ?_
                    refine AtX.round (j + 1) ?_ ?_ (Sub.cons rfl (Sub.cons rfl (Sub.cons rfl (Sub.cons rfl (Sub.cons rfl (Sub.cons rfl (Sub.cons rfl (Sub.cons rfl (Sub.nil _))))))))) (fun _ h => h)
                    · omega
                    · omega
              · skip
                refine TC.exit ?_
                refine AtX.seqX ?_
                refine AtX.seqX ?_
                refine AtX.hit ?_
                refine AtX.blk ?_
                refine AtX.then ?_
                refine TC.region ?_
                refine TL.val rfl rfl (Nat.le_of_ble_eq_true rfl) (Val.move rfl) ?_
                first
                  | refine TL.val rfl rfl (Nat.le_of_ble_eq_true rfl) (Val.add rfl rfl (w_i64 (by omega) (by omega))) ?_
                  | refine TL.val rfl rfl (Nat.le_of_ble_eq_true rfl) (Val.add rfl rfl rfl) ?_
                refine TL.val rfl rfl (Nat.le_of_ble_eq_true rfl) (Val.assign rfl) ?_
                refine TL.nil ?_
                refine AtX.round (i := (i, l)) (i + 1, l2) ?_ ?_ (Sub.cons rfl (Sub.cons rfl (Sub.cons rfl (Sub.cons rfl (Sub.cons rfl (Sub.cons rfl (Sub.nil _))))))) ro_d4
                · exact ⟨by omega, hl2N⟩
                · show ls.length - (i + 1) < ls.length - i; omega
    · skip
      refine TC.exit ?_
      refine AtX.seqX ?_
      refine AtX.seqX ?_
      refine AtX.hit ?_
      refine AtX.then ?_
      refine TC.env (E' := []) (Sub.nil _) ?_
      refine TC.seq ?_
      refine TC.region ?_
      refine TL.does (some 133) rfl rfl rfl (Does.callF go13 rfl (told23_fn _)) ?_
      rintro _ _ ⟨rfl, rfl⟩
      refine TL.val rfl rfl (Nat.le_of_ble_eq_true rfl) (Val.assign rfl) ?_
      refine TL.nil ?_
      refine AtX.then ?_
      refine TC.env (E' := [(4, _)]) (Sub.cons rfl (Sub.nil _)) ?_
      refine TC.ret1 (fn := Try.f3) (fun _ _ h => h) rfl (RV.tmp rfl) (M' := M) (by repeat (first | exact ro_refl | exact ro_pre | refine ro_tail ?_ | refine ro_app ?_)) ?_
      exact ⟨rfl, rfl⟩

end Go.Proofs.Ytphoapajlcaoeaa
