/- Texts put together: A41. -/
import Derived.Test.YtphoapajlcaoeaaW3
import Derived.Test.YtphoapajlcaoeaaG2
import Derived.Test.YtphoapajlcaoeaaG1
/- walks -/
set_option linter.unusedVariables false
set_option linter.unusedSimpArgs false
set_option maxRecDepth 100000
set_option maxHeartbeats 4000000
namespace Go.Proofs.Ytphoapajlcaoeaa
open Go Go.X
theorem ro_own {z : World} {g r o n l w bb bl b : Nat × Obj} {X Y S M : Hp} : ∀ v, Own z v (g :: r :: o :: n :: l :: (X ++ (Y ++ (w :: bb :: bl :: (S ++ (b :: M)))))) → Own z v (g :: r :: o :: n :: l :: b :: w :: bb :: bl :: (X ++ (Y ++ (S ++ M)))) := fun v h => by
  have h1 := ro_mv (A := g :: r :: o :: n :: l :: (X ++ Y)) (L := [w, bb, bl]) (R := S ++ (b :: M)) v (by simpa using h)
  have h2 := ro_mv (A := w :: bb :: bl :: g :: r :: o :: n :: l :: (X ++ (Y ++ S))) (L := [b]) (R := M) v (by simpa using h1)
  have h3 := ro_mv (A := [b, w, bb, bl]) (L := [g, r, o, n, l]) (R := X ++ (Y ++ (S ++ M))) v (by simpa using h2)
  simpa using h3
theorem own_ss {ss : List Sr} {N k : Nat} (h : ss.length = N) (hw : ∀ (k : Nat) (r : Sr), ss[k]? = some r → r.w = k ∧ r.g = 0 ∧ r.q = 0) (hk : k < N) : ∃ sb, ss[k]? = some ⟨sb, (k : Nat), 0, 0⟩ := by
  obtain ⟨r, e⟩ : ∃ r, ss[k]? = some r := ⟨_, List.getElem?_eq_getElem (by omega)⟩
  obtain ⟨h1, h2, h3⟩ := hw k r e
  cases r
  simp only at h1 h2 h3
  subst h1 h2 h3
  exact ⟨_, e⟩
theorem own_ne {k k2 : Nat} {n : Int} (h : (((k : Nat) : Int) + 1).tmod n = ((k2 : Nat) : Int)) (hk : ((k : Nat) : Int) < n) (hn : 4 ≤ n) : k ≠ k2 := by
  intro e
  subst e
  rw [Int.tmod_eq_emod_of_nonneg (by omega)] at h
  rcases Int.lt_or_le ((k : Int) + 1) n with h2 | h2
  · rw [Int.emod_eq_of_lt (by omega) h2] at h; omega
  · have e : (k : Int) + 1 = n := by omega
    rw [e, Int.emod_self] at h; omega
theorem may5 {w : Int} (h : 1 ≤ w ∧ w ≤ 64) : mayP w 0 0 5 = true := by
  unfold mayP
  rw [decide_eq_false (by omega)]; rfl
theorem rep_at {nws ols : List Nat} {w : Int} {p p2 k : Nat} {Q : Hp} (hp : nws[k]? = some p) : ((nws.map fun p => repO p w 0 0 0) ++ ((ols.map fun p => repO p w 0 0 0) ++ Q))[k]? = some (repO (if sgen 1 0 = (⟨0, 0⟩ : On).gen then p else p2) w 0 0 0) := by
  rw [List.getElem?_append_left (by simp; exact (List.getElem?_eq_some_iff.1 hp).1), List.getElem?_map, hp]
  rfl
section
variable {nws ols : List Nat} {w : Int} {k N : Nat} {S M : Hp} {a b c d e f g h x y : Nat × Obj}
theorem own_hs (hn : nws.length = N) (ho : ols.length = N) (hs : S[k]? = some x) : (a :: b :: c :: d :: e :: f :: g :: h :: ((nws.map fun p => repO p w 0 0 0) ++ ((ols.map fun p => repO p w 0 0 0) ++ (S ++ M))))[N + N + k + 8]? = some x := by
  show ((nws.map fun p => repO p w 0 0 0) ++ ((ols.map fun p => repO p w 0 0 0) ++ (S ++ M)))[N + N + k]? = _
  rw [List.getElem?_append_right (by simp; omega), List.getElem?_append_right (by simp; omega)]
  simp only [List.length_map, hn, ho]
  rw [show N + N + k - N - N = k from by omega]
  exact get_l hs
theorem set_own (hn : nws.length = N) (ho : ols.length = N) (hs : k < S.length) : (a :: b :: c :: d :: e :: f :: g :: h :: ((nws.map fun p => repO p w 0 0 0) ++ ((ols.map fun p => repO p w 0 0 0) ++ (S ++ M)))).set (N + N + k + 8) y = a :: b :: c :: d :: e :: f :: g :: h :: ((nws.map fun p => repO p w 0 0 0) ++ ((ols.map fun p => repO p w 0 0 0) ++ (S.set k y ++ M))) := by
  show a :: b :: c :: d :: e :: f :: g :: h :: (((nws.map fun p => repO p w 0 0 0) ++ ((ols.map fun p => repO p w 0 0 0) ++ (S ++ M))).set (N + N + k) y) = _
  rw [List.set_append_right _ _ (by simp; omega), List.set_append_right _ _ (by simp; omega)]
  simp only [List.length_map, hn, ho]
  rw [show N + N + k - N - N = k from by omega, List.set_append_left _ _ hs]
end
theorem own_smp (b bl cl bb N k : Nat) (cf : Cf) (ss : List Sr) (spl : List Value) (jb jl js : Nat) (H0 : Hp) (hb : H0[jb]? = some (bb, row 4 ((List.replicate N false).map Value.bool))) (hl : H0[jl]? = some (bl, row 57 (ss.map Sr.ptr ++ spl))) (hk : k < N) (hN : N ≤ 16) (hss : ss.length = N)
    (sb : Nat) (hsk : ss[k]? = some ⟨sb, (k : Nat), 0, 0⟩) (hs : H0[js]? = some (sobj sb cf.seed (k : Nat) 0 0)) (va : Int) (hv : 0 ≤ va ∧ va ≤ 1099511627776) :
    FnC Try.prog 16 #[.pointer (some ⟨b, 0, none⟩), .int .i64 ((k : Nat) : Int), .int .i64 0, .int .i64 0, .int .i64 va] (wob b cf (some ⟨bl, 0, none⟩) N cl bb N none 0 0 :: ([] ++ H0)) (fun u M' => ∃ bE c' sp σ', u = .tuple #[.slice (some ⟨bE, 0, none⟩) 48 c', .int .i64 0] ∧ 48 + sp.length = c' ∧ slOk σ' 4 1 ([(⟨(k : Nat), 0, 0, va⟩ : Smp)].flatMap Smp.cs) ∧ M' = (bE, row 5 (bv (sealB (macKey cf.seed ((k : Nat) : Int) 0) ⟨1, ((k : Nat) : Int), 0, 1, 0, va, 0⟩) ++ sp)) :: wob b cf (some ⟨bl, 0, none⟩) N cl bb N σ' 1 (0 + 1) :: (slH σ' 100 ([(⟨(k : Nat), 0, 0, va⟩ : Smp)].flatMap Smp.cs) ++ H0.set js (sobj sb cf.seed (k : Nat) 0 (0 + 1)))) := by
  have h := wSample_ok2 b bl cl bb cf none [] 0 (List.replicate N false) (ss.map Sr.ptr) spl jb jl js H0 hb hl (by rw [List.length_map, hss, List.length_replicate]) sb k cf.seed 0 0 (by rw [List.getElem?_map, hsk]; rfl) hs (slOk_nil 4) (by simp) ⟨by decide, by decide⟩ 0 0 va (mayM_iff.2 (by simp; omega)) (by rw [List.getElem?_replicate, if_pos hk]) rfl
  simp only [List.length_map, hss, List.length_replicate] at h
  exact h
theorem own_hon {N k : Nat} {va : Int} (hk : k < N) : hon ((List.replicate N false).set k true) [(⟨(k : Nat), 0, 0, va⟩ : Smp)] 0 0 = [] := by
  unfold hon
  have key : ∀ w, w ≤ ((List.replicate N false).set k true).length → honTo ((List.replicate N false).set k true) [(⟨(k : Nat), 0, 0, va⟩ : Smp)] 0 0 w = [] := by
    intro w
    induction w with
    | zero => intro _; rfl
    | succ w ih =>
      intro hw
      obtain ⟨y, hy⟩ : ∃ y, ((List.replicate N false).set k true)[w]? = some y := ⟨_, List.getElem?_eq_getElem (by omega)⟩
      rw [hon_S hy, ih (by omega), List.nil_append]
      by_cases hkw : w = k
      · subst hkw
        rw [List.getElem?_set_self (by simpa using hk)] at hy
        cases hy
        simp [honIn, selS]
      · have hne : ¬ ((k : Nat) : Int) = (w : Nat) := by omega
        simp [honIn, selS, hne]
  exact key _ (Nat.le_refl _)
/-- quorumite/quorumitelaw23.AdverseOwn -/
theorem AdverseOwn_fn (zs : List Int) (A : Option Addr) (n cA : Nat) (who value : Int) (M : Hp) (hA : RdS M A (zs.map (Value.int .i64))) (hn : n = zs.length) : FnC Try.prog 10 #[.slice A n cA, .int .i64 who, .int .i64 value] M (fun v M' => v = .bool true ∧ M = M') := by
  refine FnC.intro Try.func10 rfl 160 rfl (by simp) (fun z => ?_)
  refine TC.env (E' := [(0, _), (1, _), (2, _)]) (Sub.cons rfl (Sub.cons rfl (Sub.cons rfl (Sub.nil _)))) ?_
  refine TC.seq ?_
  refine TC.region ?_
  refine TL.val rfl rfl (Nat.le_of_ble_eq_true rfl) (Val.assign rfl) ?_
  refine TL.nil ?_
  refine AtX.then ?_
  refine TC.seq ?_
  refine TC.region ?_
  refine TL.val rfl rfl (Nat.le_of_ble_eq_true rfl) (Val.move rfl) ?_
  refine TL.does (some 27) rfl rfl rfl (Does.callF go11 rfl (Fit_fn zs A n cA _ hA hn)) ?_
  rintro _ _ ⟨cf, rfl, hcf, rfl⟩
  have hn16 := hcf.n
  have hff := hcf.f
  have hfr := hcf.fresh
  have hmm := hcf.m
  have hwin := hcf.window
  have hgrc := hcf.grace
  obtain ⟨N, hN⟩ : ∃ N : Nat, cf.n = N := ⟨cf.n.toNat, by omega⟩
  refine TL.does (some 7) rfl rfl rfl (Does.alloc ze26 rfl) ?_
  rintro _ _ ⟨b2, rfl, rfl⟩
  refine TL.does none rfl rfl rfl (Does.storeR (ys' := [.int .i64 (cf.n), .int .i64 (cf.f), .int .i64 (cf.m), .int .i64 (cf.quorum), .int .i64 (cf.fresh), .int .i64 (cf.grace), .int .i64 (cf.window), .int .i64 (cf.t0), .int .i64 (cf.t1), .int .i64 (cf.t2), .int .i64 (cf.t3), .int .i64 (cf.tol), .int .i64 (cf.min), .int .i64 (cf.max), .int .i64 (cf.calmup), .int .i64 (cf.calmdown), .int .i64 (cf.podsup), .int .i64 (cf.pctup), .int .i64 (cf.podsdown), .int .i64 (cf.pctdown), .int .i64 (cf.period), .int .i64 (cf.far), .int .i64 (cf.strikes), .int .i64 (cf.probe), .int .i64 (cf.sectors), .int .u64 (cf.seed)]) 0 rfl rfl rfl sz26 rfl rfl (by exact Nat.le_of_ble_eq_true rfl) rfl) ?_
  rintro _ _ ⟨rfl, rfl⟩
  refine TL.nil ?_
  refine AtX.then ?_
  refine TC.env (E' := [(1, _), (2, _), (6, _), (7, _)]) (Sub.cons rfl (Sub.cons rfl (Sub.cons rfl (Sub.cons rfl (Sub.nil _))))) ?_
  refine TC.seq ?_
  refine TC.seq ?_
  refine TC.region ?_
  refine TL.val rfl rfl (Nat.le_of_ble_eq_true rfl) (Val.fieldAddr rfl fl26_1 sz3 rfl) ?_
  first
    | refine TL.val rfl rfl (Nat.le_of_ble_eq_true rfl) (Val.load 0 rfl ag3 rfl rfl) ?_
    | refine TL.val rfl rfl (Nat.le_of_ble_eq_true rfl) (Val.load 1 rfl ag3 rfl rfl) ?_
    | refine TL.val rfl rfl (Nat.le_of_ble_eq_true rfl) (Val.load 2 rfl ag3 rfl rfl) ?_
    | refine TL.val rfl rfl (Nat.le_of_ble_eq_true rfl) (Val.load 3 rfl ag3 rfl rfl) ?_
    | refine TL.val rfl rfl (Nat.le_of_ble_eq_true rfl) (Val.load 4 rfl ag3 rfl rfl) ?_
    | refine TL.val rfl rfl (Nat.le_of_ble_eq_true rfl) (Val.load 5 rfl ag3 rfl rfl) ?_
    | refine TL.val rfl rfl (Nat.le_of_ble_eq_true rfl) (Val.load 6 rfl ag3 rfl rfl) ?_
    | refine TL.val rfl rfl (Nat.le_of_ble_eq_true rfl) (Val.load 7 rfl ag3 rfl rfl) ?_
  refine TL.val rfl rfl (Nat.le_of_ble_eq_true rfl) (Val.eqlI rfl rfl) ?_
  refine TL.nil ?_
  refine AtX.then ?_
  refine TC.env (E' := [(1, _), (2, _), (6, _), (7, _), (30, _)]) (Sub.cons rfl (Sub.cons rfl (Sub.cons rfl (Sub.cons rfl (Sub.cons rfl (Sub.nil _)))))) ?_
  first | refine TC.condP rfl (fun c1 => ?_) (fun c1 => ?_) | refine TC.condN rfl (fun c1 => ?_) (fun c1 => ?_) | refine TC.condB rfl (fun c1 => ?_) (fun c1 => ?_) | refine TC.cond rfl (fun c1 => ?_) (fun c1 => ?_)
  · skip
    refine TC.env (E' := [(1, _), (2, _), (6, _), (7, _)]) (Sub.cons rfl (Sub.cons rfl (Sub.cons rfl (Sub.cons rfl (Sub.nil _))))) ?_
    refine TC.seq ?_
    refine TC.region ?_
    refine TL.does (some 31) rfl rfl rfl (Does.callF go13 rfl (told23_fn _)) ?_
    rintro _ _ ⟨rfl, rfl⟩
    refine TL.val rfl rfl (Nat.le_of_ble_eq_true rfl) (Val.assign rfl) ?_
    refine TL.nil ?_
    refine AtX.then ?_
    refine TC.env (E' := [(1, _), (2, _), (6, _), (7, _)]) (Sub.cons rfl (Sub.cons rfl (Sub.cons rfl (Sub.cons rfl (Sub.nil _))))) ?_
    refine TC.ret1 (fn := Try.f10) (fun _ _ h => h) rfl (RV.tmp rfl) (M' := M) (by repeat (first | exact ro_refl | exact ro_pre | refine ro_tail ?_ | refine ro_app ?_)) ?_
    exact ⟨rfl, rfl⟩
  · skip
    refine TC.env (E' := [(1, _), (2, _), (6, _), (7, _)]) (Sub.cons rfl (Sub.cons rfl (Sub.cons rfl (Sub.cons rfl (Sub.nil _))))) ?_
    refine TC.skip ?_
    refine AtX.then ?_
    refine TC.env (E' := [(1, _), (2, _), (6, _), (7, _)]) (Sub.cons rfl (Sub.cons rfl (Sub.cons rfl (Sub.cons rfl (Sub.nil _))))) ?_
    refine TC.seq ?_
    refine TC.drawL ((b2, .cells #[.int .i64 (cf.n), .int .i64 (cf.f), .int .i64 (cf.m), .int .i64 (cf.quorum), .int .i64 (cf.fresh), .int .i64 (cf.grace), .int .i64 (cf.window), .int .i64 (cf.t0), .int .i64 (cf.t1), .int .i64 (cf.t2), .int .i64 (cf.t3), .int .i64 (cf.tol), .int .i64 (cf.min), .int .i64 (cf.max), .int .i64 (cf.calmup), .int .i64 (cf.calmdown), .int .i64 (cf.podsup), .int .i64 (cf.pctup), .int .i64 (cf.podsdown), .int .i64 (cf.pctdown), .int .i64 (cf.period), .int .i64 (cf.far), .int .i64 (cf.strikes), .int .i64 (cf.probe), .int .i64 (cf.sectors), .int .u64 (cf.seed)] 26 (0, 0)) :: M) mixed 6 ?_
    refine TA.tk 0 1 rfl rfl rfl (Val.loadAgg (vs := [.int .i64 (cf.n), .int .i64 (cf.f), .int .i64 (cf.m), .int .i64 (cf.quorum), .int .i64 (cf.fresh), .int .i64 (cf.grace), .int .i64 (cf.window), .int .i64 (cf.t0), .int .i64 (cf.t1), .int .i64 (cf.t2), .int .i64 (cf.t3), .int .i64 (cf.tol), .int .i64 (cf.min), .int .i64 (cf.max), .int .i64 (cf.calmup), .int .i64 (cf.calmdown), .int .i64 (cf.podsup), .int .i64 (cf.pctup), .int .i64 (cf.podsdown), .int .i64 (cf.pctdown), .int .i64 (cf.period), .int .i64 (cf.far), .int .i64 (cf.strikes), .int .i64 (cf.probe), .int .i64 (cf.sectors), .int .u64 (cf.seed)]) 0 rfl ag26 sz26 rfl rfl rfl) ?_
    refine TA.tk 2 5 rfl rfl rfl (Val.loadAgg (vs := [.int .i64 (cf.n), .int .i64 (cf.f), .int .i64 (cf.m), .int .i64 (cf.quorum), .int .i64 (cf.fresh), .int .i64 (cf.grace), .int .i64 (cf.window), .int .i64 (cf.t0), .int .i64 (cf.t1), .int .i64 (cf.t2), .int .i64 (cf.t3), .int .i64 (cf.tol), .int .i64 (cf.min), .int .i64 (cf.max), .int .i64 (cf.calmup), .int .i64 (cf.calmdown), .int .i64 (cf.podsup), .int .i64 (cf.pctup), .int .i64 (cf.podsdown), .int .i64 (cf.pctdown), .int .i64 (cf.period), .int .i64 (cf.far), .int .i64 (cf.strikes), .int .i64 (cf.probe), .int .i64 (cf.sectors), .int .u64 (cf.seed)]) 0 rfl ag26 sz26 rfl rfl rfl) ?_
    refine TA.one 1 (by kernel_rfl) ?_
    refine TO.dz 7 (some 33) rfl rfl rfl rfl (Does.callF go12 rfl (wNew_fn cf N _ hcf hN)) ?_
    rintro _ _ ⟨b, bl, cl, spl, bb, ss, rfl, hss, hsw, rfl⟩
    refine roK ?_
    refine TA.one 3 (by kernel_rfl) ?_
    refine TO.dz 15 (some 35) rfl rfl rfl rfl (Does.callF go29 rfl (gNew_fn cf N _ hcf hN)) ?_
    rintro _ _ ⟨gb, rb, lb, nb, cn, sn, ob, co, so, nws, ols, rfl, hnl, hol, rfl⟩
    refine roK ?_
    refine TA.tk 4 31 rfl rfl rfl (Val.assign rfl) ?_
    refine TA.tk 5 63 rfl rfl rfl (Val.assign rfl) ?_
    refine TA.done (by kernel_rfl) ?_
    refine AtX.then ?_
    refine TC.env (E' := [(1, _), (2, _), (6, _), (7, _), (8, _), (9, _)]) (Sub.cons rfl (Sub.cons rfl (Sub.cons rfl (Sub.cons rfl (Sub.cons rfl (Sub.cons rfl (Sub.nil _))))))) ?_
    refine TC.seq ?_
    refine TC.seq ?_
    refine TC.heap (M' := gateO gb cf rb (some ⟨nb, 0, none⟩) N cn (some ⟨ob, 0, none⟩) N co 0 :: ringO rb cf.seed lb N cf.grace 0 :: (lb, row 161 ((List.replicate N (⟨0, 0⟩ : On)).flatMap On.cs)) :: (nb, row 118 (nws.map pp ++ sn)) :: (ob, row 118 (ols.map pp ++ so)) :: ((b2, .cells #[.int .i64 (cf.n), .int .i64 (cf.f), .int .i64 (cf.m), .int .i64 (cf.quorum), .int .i64 (cf.fresh), .int .i64 (cf.grace), .int .i64 (cf.window), .int .i64 (cf.t0), .int .i64 (cf.t1), .int .i64 (cf.t2), .int .i64 (cf.t3), .int .i64 (cf.tol), .int .i64 (cf.min), .int .i64 (cf.max), .int .i64 (cf.calmup), .int .i64 (cf.calmdown), .int .i64 (cf.podsup), .int .i64 (cf.pctup), .int .i64 (cf.podsdown), .int .i64 (cf.pctdown), .int .i64 (cf.period), .int .i64 (cf.far), .int .i64 (cf.strikes), .int .i64 (cf.probe), .int .i64 (cf.sectors), .int .u64 (cf.seed)] 26 (0, 0)) :: wob b cf (some ⟨bl, 0, none⟩) N cl bb N none 0 0 :: (bb, row 4 ((List.replicate N false).map Value.bool)) :: (bl, row 57 (ss.map Sr.ptr ++ spl)) :: ((nws.map fun p => repO p cf.window 0 0 0) ++ ((ols.map fun p => repO p cf.window 0 0 0) ++ ((ss.map (sob cf.seed)) ++ M))))) ro_own ?_
    refine TC.region ?_
    refine TL.val rfl rfl (Nat.le_of_ble_eq_true rfl) (Val.move rfl) ?_
    refine TL.val rfl rfl (Nat.le_of_ble_eq_true rfl) (Val.eqlNil rfl rfl pt28) ?_
    refine TL.val rfl rfl (Nat.le_of_ble_eq_true rfl) (Val.move rfl) ?_
    refine TL.valYes rfl rfl (Nat.le_of_ble_eq_true rfl) rfl (Nat.le_of_ble_eq_true rfl) rfl (Val.move rfl) ?_
    refine TL.valYes rfl rfl (Nat.le_of_ble_eq_true rfl) rfl (Nat.le_of_ble_eq_true rfl) rfl (Val.eqlNil rfl rfl pt55) ?_
    first
      | refine TL.val rfl rfl (Nat.le_of_ble_eq_true rfl) (Val.pickAnd rfl rfl rfl) ?_
      | refine TL.val rfl rfl (Nat.le_of_ble_eq_true rfl) (Val.pickOr rfl rfl rfl) ?_
      | refine TL.val rfl rfl (Nat.le_of_ble_eq_true rfl) (Val.pick rfl rfl rfl) ?_
    refine TL.nil ?_
    refine AtX.then ?_
    refine TC.env (E' := [(1, _), (2, _), (6, _), (7, _), (8, _), (9, _), (41, _)]) (Sub.cons rfl (Sub.cons rfl (Sub.cons rfl (Sub.cons rfl (Sub.cons rfl (Sub.cons rfl (Sub.cons rfl (Sub.nil _)))))))) ?_
    first | refine TC.condP rfl (fun c2 => ?_) (fun c2 => ?_) | refine TC.condN rfl (fun c2 => ?_) (fun c2 => ?_) | refine TC.condB rfl (fun c2 => ?_) (fun c2 => ?_) | refine TC.cond rfl (fun c2 => ?_) (fun c2 => ?_)
    · skip
      (exfalso; simp at c2)
    · skip
      refine TC.env (E' := [(1, _), (2, _), (6, _), (7, _), (8, _), (9, _)]) (Sub.cons rfl (Sub.cons rfl (Sub.cons rfl (Sub.cons rfl (Sub.cons rfl (Sub.cons rfl (Sub.nil _))))))) ?_
      refine TC.skip ?_
      refine AtX.then ?_
      refine TC.env (E' := [(1, _), (2, _), (6, _), (7, _), (8, _), (9, _)]) (Sub.cons rfl (Sub.cons rfl (Sub.cons rfl (Sub.cons rfl (Sub.cons rfl (Sub.cons rfl (Sub.nil _))))))) ?_
      refine TC.seq ?_
      obtain ⟨r1, hr1, g1_, l1_⟩ := rem_ex (m := IntKind.u64.wrap who) (d := cf.n) (by rw [w_u64m]; omega) (by omega)
      obtain ⟨k, hkr⟩ : ∃ k : Nat, r1 = k := ⟨r1.toNat, by omega⟩
      subst hkr
      have hk := hr1
      have hkN : k < N := by omega
      have hn16b : N ≤ 16 := by omega
      obtain ⟨va, hva, g2_, l2_⟩ := rem_ex (m := IntKind.u64.wrap value) (d := 1099511627777) (by rw [w_u64m]; omega) (by decide)
      have hva2 : 0 ≤ va ∧ va ≤ 1099511627776 := by omega
      have hm : mayM ⟨1, ((k : Nat) : Int), 0, 1, 0, va, 0⟩ = true := mayM_iff.2 (by simp; omega)
      have hm5 : mayM ⟨1, ((k : Nat) : Int), 0, 5, 0, va, 0⟩ = true := mayM_iff.2 (by simp; omega)
      obtain ⟨p, hp⟩ : ∃ p, nws[k]? = some p := ⟨_, List.getElem?_eq_getElem (by omega)⟩
      obtain ⟨p2, hp2⟩ : ∃ p2, ols[k]? = some p2 := ⟨_, List.getElem?_eq_getElem (by omega)⟩
      have hx0 : (List.replicate N (⟨0, 0⟩ : On))[k]? = some (⟨0, 0⟩ : On) := by rw [List.getElem?_replicate, if_pos (by omega)]
      obtain ⟨sb, hsk⟩ : ∃ sb, ss[k]? = some ⟨sb, (k : Nat), 0, 0⟩ := own_ss hss hsw hkN
      have hsk2 : (ss.map (sob cf.seed))[k]? = some (sobj sb cf.seed (k : Nat) 0 0) := by rw [List.getElem?_map, hsk]; rfl
      have hlF : (List.replicate N false)[k]? = some false := by rw [List.getElem?_replicate, if_pos hkN]
      have hlT : ((List.replicate N false).set k true)[k]? = some true := List.getElem?_set_self (by simpa using hkN)
      obtain ⟨r2, hr2, g3_, l3_⟩ := rem_ex (m := ((k : Nat) : Int) + 1) (d := cf.n) (by omega) (by omega)
      obtain ⟨k2, hk2r⟩ : ∃ k2 : Nat, r2 = k2 := ⟨r2.toNat, by omega⟩
      subst hk2r
      have hk2 := hr2
      have hk2N : k2 < N := by omega
      have hne : k ≠ k2 := own_ne hk2 (by omega) (by omega)
      have hlT2 : ((List.replicate N false).set k true)[k2]? = some false := by rw [List.getElem?_set_ne hne, List.getElem?_replicate, if_pos hk2N]
      refine TC.region ?_
      refine TL.val rfl rfl (Nat.le_of_ble_eq_true rfl) (Val.move rfl) ?_
      refine TL.val rfl rfl (Nat.le_of_ble_eq_true rfl) (Val.convI rfl iu3 in32 rfl) ?_
      refine TL.val rfl rfl (Nat.le_of_ble_eq_true rfl) (Val.fieldAddr rfl fl26_0 sz3 rfl) ?_
      refine TL.val rfl rfl (Nat.le_of_ble_eq_true rfl) (Val.load 5 rfl ag3 rfl rfl) ?_
      refine TL.val rfl rfl (Nat.le_of_ble_eq_true rfl) (Val.convI rfl iu3 in32 (r := cf.n) (w_u64 (by omega) (by omega))) ?_
      refine TL.val rfl rfl (Nat.le_of_ble_eq_true rfl) (Val.rem rfl rfl (by omega) (r := ((k : Nat) : Int)) hk) ?_
      refine TL.val rfl rfl (Nat.le_of_ble_eq_true rfl) (Val.convI rfl iu32 in3 (r := ((k : Nat) : Int)) (w_i64 (by omega) (by omega))) ?_
      refine TL.val rfl rfl (Nat.le_of_ble_eq_true rfl) (Val.assign rfl) ?_
      refine TL.nil ?_
      refine AtX.then ?_
      refine TC.env (E' := [(2, _), (6, _), (7, _), (8, _), (9, _), (10, _)]) (Sub.cons rfl (Sub.cons rfl (Sub.cons rfl (Sub.cons rfl (Sub.cons rfl (Sub.cons rfl (Sub.nil _))))))) ?_
      refine TC.seq ?_
      refine TC.region ?_
      refine TL.val rfl rfl (Nat.le_of_ble_eq_true rfl) (Val.move rfl) ?_
      refine TL.val rfl rfl (Nat.le_of_ble_eq_true rfl) (Val.convI rfl iu2 in24 rfl) ?_
      refine TL.val rfl rfl (Nat.le_of_ble_eq_true rfl) (Val.rem rfl rfl (by decide) (r := va) hva) ?_
      refine TL.val rfl rfl (Nat.le_of_ble_eq_true rfl) (Val.convI rfl iu24 in2 (r := va) (w_i64 (by omega) (by omega))) ?_
      refine TL.val rfl rfl (Nat.le_of_ble_eq_true rfl) (Val.assign rfl) ?_
      refine TL.nil ?_
      refine AtX.then ?_
      refine TC.env (E' := [(6, _), (7, _), (8, _), (9, _), (10, _), (11, _)]) (Sub.cons rfl (Sub.cons rfl (Sub.cons rfl (Sub.cons rfl (Sub.cons rfl (Sub.cons rfl (Sub.nil _))))))) ?_
      refine TC.seq ?_
      refine TC.heap (M' := wob b cf (some ⟨bl, 0, none⟩) N cl bb N none 0 0 :: ([] ++ (gateO gb cf rb (some ⟨nb, 0, none⟩) N cn (some ⟨ob, 0, none⟩) N co 0 :: ringO rb cf.seed lb N cf.grace 0 :: (lb, row 161 ((List.replicate N (⟨0, 0⟩ : On)).flatMap On.cs)) :: (nb, row 118 (nws.map pp ++ sn)) :: (ob, row 118 (ols.map pp ++ so)) :: (b2, .cells #[.int .i64 (cf.n), .int .i64 (cf.f), .int .i64 (cf.m), .int .i64 (cf.quorum), .int .i64 (cf.fresh), .int .i64 (cf.grace), .int .i64 (cf.window), .int .i64 (cf.t0), .int .i64 (cf.t1), .int .i64 (cf.t2), .int .i64 (cf.t3), .int .i64 (cf.tol), .int .i64 (cf.min), .int .i64 (cf.max), .int .i64 (cf.calmup), .int .i64 (cf.calmdown), .int .i64 (cf.podsup), .int .i64 (cf.pctup), .int .i64 (cf.podsdown), .int .i64 (cf.pctdown), .int .i64 (cf.period), .int .i64 (cf.far), .int .i64 (cf.strikes), .int .i64 (cf.probe), .int .i64 (cf.sectors), .int .u64 (cf.seed)] 26 (0, 0)) :: (bb, row 4 ((List.replicate N false).map Value.bool)) :: (bl, row 57 (ss.map Sr.ptr ++ spl)) :: ((nws.map fun p => repO p cf.window 0 0 0) ++ ((ols.map fun p => repO p cf.window 0 0 0) ++ ((ss.map (sob cf.seed)) ++ M)))))) (fun w h => by have h2 := ro_mv (A := [_, _, _, _, _, _]) (L := [_]) w h; simpa only [List.cons_append, List.nil_append] using h2) ?_
      refine TC.region ?_
      refine TL.val rfl rfl (Nat.le_of_ble_eq_true rfl) (Val.move rfl) ?_
      refine TL.val rfl rfl (Nat.le_of_ble_eq_true rfl) (Val.move rfl) ?_
      refine TL.val rfl rfl (Nat.le_of_ble_eq_true rfl) (Val.move rfl) ?_
      refine TL.does (some 57) rfl rfl rfl (Does.callF go16 rfl (own_smp b bl cl bb N k cf ss spl 6 7 (N + N + k + 8) (gateO gb cf rb (some ⟨nb, 0, none⟩) N cn (some ⟨ob, 0, none⟩) N co 0 :: ringO rb cf.seed lb N cf.grace 0 :: (lb, row 161 ((List.replicate N (⟨0, 0⟩ : On)).flatMap On.cs)) :: (nb, row 118 (nws.map pp ++ sn)) :: (ob, row 118 (ols.map pp ++ so)) :: (b2, .cells #[.int .i64 (cf.n), .int .i64 (cf.f), .int .i64 (cf.m), .int .i64 (cf.quorum), .int .i64 (cf.fresh), .int .i64 (cf.grace), .int .i64 (cf.window), .int .i64 (cf.t0), .int .i64 (cf.t1), .int .i64 (cf.t2), .int .i64 (cf.t3), .int .i64 (cf.tol), .int .i64 (cf.min), .int .i64 (cf.max), .int .i64 (cf.calmup), .int .i64 (cf.calmdown), .int .i64 (cf.podsup), .int .i64 (cf.pctup), .int .i64 (cf.podsdown), .int .i64 (cf.pctdown), .int .i64 (cf.period), .int .i64 (cf.far), .int .i64 (cf.strikes), .int .i64 (cf.probe), .int .i64 (cf.sectors), .int .u64 (cf.seed)] 26 (0, 0)) :: (bb, row 4 ((List.replicate N false).map Value.bool)) :: (bl, row 57 (ss.map Sr.ptr ++ spl)) :: ((nws.map fun p => repO p cf.window 0 0 0) ++ ((ols.map fun p => repO p cf.window 0 0 0) ++ ((ss.map (sob cf.seed)) ++ M)))) rfl rfl hkN hn16b hss sb hsk (own_hs hnl hol hsk2) va hva2)) ?_
      rintro _ _ ⟨bE, cE, spE, σ1, rfl, hcE, hok1, rfl⟩
      obtain ⟨bk, ck, spk, rfl, hck⟩ := hok1.some (by decide)
      refine TL.heap (M' := gateO gb cf rb (some ⟨nb, 0, none⟩) N cn (some ⟨ob, 0, none⟩) N co 0 :: ringO rb cf.seed lb N cf.grace 0 :: (lb, row 161 ((List.replicate N (⟨0, 0⟩ : On)).flatMap On.cs)) :: (nb, row 118 (nws.map pp ++ sn)) :: (ob, row 118 (ols.map pp ++ so)) :: ((bE, row 5 (bv (sealB (macKey cf.seed ((k : Nat) : Int) 0) ⟨1, ((k : Nat) : Int), 0, 1, 0, va, 0⟩) ++ spE)) :: wob b cf (some ⟨bl, 0, none⟩) N cl bb N (some (bk, ck, spk)) 1 (0 + 1) :: (bk, row 100 ([(⟨(k : Nat), 0, 0, va⟩ : Smp)].flatMap Smp.cs ++ spk)) :: (b2, .cells #[.int .i64 (cf.n), .int .i64 (cf.f), .int .i64 (cf.m), .int .i64 (cf.quorum), .int .i64 (cf.fresh), .int .i64 (cf.grace), .int .i64 (cf.window), .int .i64 (cf.t0), .int .i64 (cf.t1), .int .i64 (cf.t2), .int .i64 (cf.t3), .int .i64 (cf.tol), .int .i64 (cf.min), .int .i64 (cf.max), .int .i64 (cf.calmup), .int .i64 (cf.calmdown), .int .i64 (cf.podsup), .int .i64 (cf.pctup), .int .i64 (cf.podsdown), .int .i64 (cf.pctdown), .int .i64 (cf.period), .int .i64 (cf.far), .int .i64 (cf.strikes), .int .i64 (cf.probe), .int .i64 (cf.sectors), .int .u64 (cf.seed)] 26 (0, 0)) :: (bb, row 4 ((List.replicate N false).map Value.bool)) :: (bl, row 57 (ss.map Sr.ptr ++ spl)) :: ((nws.map fun p => repO p cf.window 0 0 0) ++ ((ols.map fun p => repO p cf.window 0 0 0) ++ (((ss.map (sob cf.seed)).set k (sobj sb cf.seed (k : Nat) 0 (0 + 1))) ++ M))))) (fun w h => by rw [set_own (y := sobj sb cf.seed (k : Nat) 0 (0 + 1)) hnl hol (by simpa using (hss ▸ hkN))] at h; exact ro_mv (A := [_, _, _]) (L := [_, _, _, _, _]) w h) ?_
      refine TL.val rfl rfl (Nat.le_of_ble_eq_true rfl) (Val.move rfl) ?_
      refine TL.val rfl rfl (Nat.le_of_ble_eq_true rfl) (Val.extract rfl rfl) ?_
      refine TL.val rfl rfl (Nat.le_of_ble_eq_true rfl) (Val.extract rfl rfl) ?_
      refine TL.val rfl rfl (Nat.le_of_ble_eq_true rfl) (Val.assign rfl) ?_
      refine TL.val rfl rfl (Nat.le_of_ble_eq_true rfl) (Val.assign rfl) ?_
      refine TL.nil ?_
      refine AtX.then ?_
      refine TC.env (E' := [(6, _), (7, _), (8, _), (9, _), (10, _), (11, _), (12, _), (13, _)]) (Sub.cons rfl (Sub.cons rfl (Sub.cons rfl (Sub.cons rfl (Sub.cons rfl (Sub.cons rfl (Sub.cons rfl (Sub.cons rfl (Sub.nil _))))))))) ?_
      refine TC.seq ?_
      refine TC.region ?_
      refine TL.val rfl rfl (Nat.le_of_ble_eq_true rfl) (Val.move rfl) ?_
      refine TL.val rfl rfl (Nat.le_of_ble_eq_true rfl) (Val.move rfl) ?_
      refine TL.does (some 63) rfl rfl rfl (Does.callF go32 rfl ((Check_nil gb rb lb nb cn ob co sn so cf N 0 0 (List.replicate N (⟨0, 0⟩ : On)) nws ols ((bE, row 5 (bv (sealB (macKey cf.seed ((k : Nat) : Int) 0) ⟨1, ((k : Nat) : Int), 0, 1, 0, va, 0⟩) ++ spE)) :: wob b cf (some ⟨bl, 0, none⟩) N cl bb N (some (bk, ck, spk)) 1 (0 + 1) :: (bk, row 100 ([(⟨(k : Nat), 0, 0, va⟩ : Smp)].flatMap Smp.cs ++ spk)) :: (b2, .cells #[.int .i64 (cf.n), .int .i64 (cf.f), .int .i64 (cf.m), .int .i64 (cf.quorum), .int .i64 (cf.fresh), .int .i64 (cf.grace), .int .i64 (cf.window), .int .i64 (cf.t0), .int .i64 (cf.t1), .int .i64 (cf.t2), .int .i64 (cf.t3), .int .i64 (cf.tol), .int .i64 (cf.min), .int .i64 (cf.max), .int .i64 (cf.calmup), .int .i64 (cf.calmdown), .int .i64 (cf.podsup), .int .i64 (cf.pctup), .int .i64 (cf.podsdown), .int .i64 (cf.pctdown), .int .i64 (cf.period), .int .i64 (cf.far), .int .i64 (cf.strikes), .int .i64 (cf.probe), .int .i64 (cf.sectors), .int .u64 (cf.seed)] 26 (0, 0)) :: (bb, row 4 ((List.replicate N false).map Value.bool)) :: (bl, row 57 (ss.map Sr.ptr ++ spl)) :: ((nws.map fun p => repO p cf.window 0 0 0) ++ ((ols.map fun p => repO p cf.window 0 0 0) ++ (((ss.map (sob cf.seed)).set k (sobj sb cf.seed (k : Nat) 0 (0 + 1))) ++ M)))) hN (by simp) hnl hol hgrc ⟨by decide, by decide⟩ k ⟨0, 0⟩ hx0 ⟨by decide, by decide⟩ ⟨by decide, by decide⟩ 1 0 1 0 va 0 ⟨by decide, by decide⟩ (by decide) 0 hcf p p2 hp hp2 (k + 6) 0 0 0 ⟨by decide, by decide⟩ (show ((nws.map fun p => repO p cf.window 0 0 0) ++ ((ols.map fun p => repO p cf.window 0 0 0) ++ (((ss.map (sob cf.seed)).set k (sobj sb cf.seed (k : Nat) 0 (0 + 1))) ++ M)))[k]? = _ from rep_at hp) ⟨by decide, by decide⟩ hm ⟨by decide, by decide⟩ (tagB (tagOf (macKey cf.seed ((k : Nat) : Int) 0) (putM ⟨1, ((k : Nat) : Int), 0, 1, 0, va, 0⟩))) (some ⟨bE, 0, none⟩) cE (rd_all (i := 0) (sp := spE) rfl) (by omega) (by simp)).mono (R' := fun v M' => v = .tuple #[.agg #[.int .i64 1, .int .i64 ((k : Nat) : Int), .int .i64 0, .int .i64 1, .int .i64 0, .int .i64 va, .int .i64 0], .int .i64 0] ∧ M' = (gateO gb cf rb (some ⟨nb, 0, none⟩) N cn (some ⟨ob, 0, none⟩) N co 0 :: ringO rb cf.seed lb N cf.grace (0 + 1) :: (lb, row 161 ((List.replicate N (⟨0, 0⟩ : On)).flatMap On.cs)) :: (nb, row 118 (nws.map pp ++ sn)) :: (ob, row 118 (ols.map pp ++ so)) :: ((bE, row 5 (bv (sealB (macKey cf.seed ((k : Nat) : Int) 0) ⟨1, ((k : Nat) : Int), 0, 1, 0, va, 0⟩) ++ spE)) :: wob b cf (some ⟨bl, 0, none⟩) N cl bb N (some (bk, ck, spk)) 1 (0 + 1) :: (bk, row 100 ([(⟨(k : Nat), 0, 0, va⟩ : Smp)].flatMap Smp.cs ++ spk)) :: (b2, .cells #[.int .i64 (cf.n), .int .i64 (cf.f), .int .i64 (cf.m), .int .i64 (cf.quorum), .int .i64 (cf.fresh), .int .i64 (cf.grace), .int .i64 (cf.window), .int .i64 (cf.t0), .int .i64 (cf.t1), .int .i64 (cf.t2), .int .i64 (cf.t3), .int .i64 (cf.tol), .int .i64 (cf.min), .int .i64 (cf.max), .int .i64 (cf.calmup), .int .i64 (cf.calmdown), .int .i64 (cf.podsup), .int .i64 (cf.pctup), .int .i64 (cf.podsdown), .int .i64 (cf.pctdown), .int .i64 (cf.period), .int .i64 (cf.far), .int .i64 (cf.strikes), .int .i64 (cf.probe), .int .i64 (cf.sectors), .int .u64 (cf.seed)] 26 (0, 0)) :: (bb, row 4 ((List.replicate N false).map Value.bool)) :: (bl, row 57 (ss.map Sr.ptr ++ spl)) :: ((nws.map fun p => repO p cf.window 0 0 0) ++ ((ols.map fun p => repO p cf.window 0 0 0) ++ (((ss.map (sob cf.seed)).set k (sobj sb cf.seed (k : Nat) 0 (0 + 1))) ++ M)))))) (fun v M' h => h.elim (fun h => And.intro h.2.1 h.2.2) (fun h => False.elim (h.1 (chk0 (show okK ⟨0, 0⟩ (sgen 1 0) 0 cf.grace = true from rfl) (decide_eq_true (same_yes (tagOf_bd (macKey cf.seed ((k : Nat) : Int) 0) (putM ⟨1, ((k : Nat) : Int), 0, 1, 0, va, 0⟩)).1 (tagOf_bd (macKey cf.seed ((k : Nat) : Int) 0) (putM ⟨1, ((k : Nat) : Int), 0, 1, 0, va, 0⟩)).2)) (may0 hwin) (stale0 hfr.1) (e := decide ((0 : Int) < cf.m)) (decide_eq_true (by omega)))))))) ?_
      rintro _ _ ⟨rfl, rfl⟩
      refine TL.val rfl rfl (Nat.le_of_ble_eq_true rfl) (Val.move rfl) ?_
      refine TL.val rfl rfl (Nat.le_of_ble_eq_true rfl) (Val.extract rfl rfl) ?_
      refine TL.val rfl rfl (Nat.le_of_ble_eq_true rfl) (Val.extract rfl rfl) ?_
      refine TL.does (some 14) rfl rfl rfl (Does.alloc ze61 rfl) ?_
      rintro _ _ ⟨bm1, rfl, rfl⟩
      first
        | refine TL.does none rfl rfl rfl (Does.store (i := 0) rfl rfl rfl sz61 rfl rfl (by first | exact Nat.le_of_ble_eq_true rfl | decide | omega) rfl rfl) ?_
        | refine TL.does none rfl rfl rfl (Does.store (i := 1) rfl rfl rfl sz61 rfl rfl (by first | exact Nat.le_of_ble_eq_true rfl | decide | omega) rfl rfl) ?_
        | refine TL.does none rfl rfl rfl (Does.store (i := 2) rfl rfl rfl sz61 rfl rfl (by first | exact Nat.le_of_ble_eq_true rfl | decide | omega) rfl rfl) ?_
        | refine TL.does none rfl rfl rfl (Does.store (i := 3) rfl rfl rfl sz61 rfl rfl (by first | exact Nat.le_of_ble_eq_true rfl | decide | omega) rfl rfl) ?_
        | refine TL.does none rfl rfl rfl (Does.store (i := 4) rfl rfl rfl sz61 rfl rfl (by first | exact Nat.le_of_ble_eq_true rfl | decide | omega) rfl rfl) ?_
        | refine TL.does none rfl rfl rfl (Does.store (i := 5) rfl rfl rfl sz61 rfl rfl (by first | exact Nat.le_of_ble_eq_true rfl | decide | omega) rfl rfl) ?_
        | refine TL.does none rfl rfl rfl (Does.store (i := 6) rfl rfl rfl sz61 rfl rfl (by first | exact Nat.le_of_ble_eq_true rfl | decide | omega) rfl rfl) ?_
        | refine TL.does none rfl rfl rfl (Does.store (i := 7) rfl rfl rfl sz61 rfl rfl (by first | exact Nat.le_of_ble_eq_true rfl | decide | omega) rfl rfl) ?_
      rintro _ _ ⟨rfl, rfl⟩
      refine TL.val rfl rfl (Nat.le_of_ble_eq_true rfl) (Val.assign rfl) ?_
      refine TL.nil ?_
      refine AtX.then ?_
      refine TC.env (E' := [(6, _), (7, _), (8, _), (9, _), (10, _), (11, _), (13, _), (14, _), (15, _)]) (Sub.cons rfl (Sub.cons rfl (Sub.cons rfl (Sub.cons rfl (Sub.cons rfl (Sub.cons rfl (Sub.cons rfl (Sub.cons rfl (Sub.cons rfl (Sub.nil _)))))))))) ?_
      refine TC.seq ?_
      refine TC.seq ?_
      refine TC.region ?_
      refine TL.val rfl rfl (Nat.le_of_ble_eq_true rfl) (Val.move rfl) ?_
      refine TL.val rfl rfl (Nat.le_of_ble_eq_true rfl) (Val.neqI rfl rfl) ?_
      refine TL.val rfl rfl (Nat.le_of_ble_eq_true rfl) (Val.move rfl) ?_
      refine TL.valYes rfl rfl (Nat.le_of_ble_eq_true rfl) rfl (Nat.le_of_ble_eq_true rfl) rfl (Val.move rfl) ?_
      refine TL.valYes rfl rfl (Nat.le_of_ble_eq_true rfl) rfl (Nat.le_of_ble_eq_true rfl) rfl (Val.neqI rfl rfl) ?_
      first
        | refine TL.val rfl rfl (Nat.le_of_ble_eq_true rfl) (Val.pickAnd rfl rfl rfl) ?_
        | refine TL.val rfl rfl (Nat.le_of_ble_eq_true rfl) (Val.pickOr rfl rfl rfl) ?_
        | refine TL.val rfl rfl (Nat.le_of_ble_eq_true rfl) (Val.pick rfl rfl rfl) ?_
      refine TL.val rfl rfl (Nat.le_of_ble_eq_true rfl) (Val.move rfl) ?_
      refine TL.valYes rfl rfl (Nat.le_of_ble_eq_true rfl) rfl (Nat.le_of_ble_eq_true rfl) rfl (Val.fieldAddr rfl fl61_1 sz3 rfl) ?_
      first
        | refine TL.valYes rfl rfl (Nat.le_of_ble_eq_true rfl) rfl (Nat.le_of_ble_eq_true rfl) rfl (Val.load 0 rfl ag3 rfl rfl) ?_
        | refine TL.valYes rfl rfl (Nat.le_of_ble_eq_true rfl) rfl (Nat.le_of_ble_eq_true rfl) rfl (Val.load 1 rfl ag3 rfl rfl) ?_
        | refine TL.valYes rfl rfl (Nat.le_of_ble_eq_true rfl) rfl (Nat.le_of_ble_eq_true rfl) rfl (Val.load 2 rfl ag3 rfl rfl) ?_
        | refine TL.valYes rfl rfl (Nat.le_of_ble_eq_true rfl) rfl (Nat.le_of_ble_eq_true rfl) rfl (Val.load 3 rfl ag3 rfl rfl) ?_
        | refine TL.valYes rfl rfl (Nat.le_of_ble_eq_true rfl) rfl (Nat.le_of_ble_eq_true rfl) rfl (Val.load 4 rfl ag3 rfl rfl) ?_
        | refine TL.valYes rfl rfl (Nat.le_of_ble_eq_true rfl) rfl (Nat.le_of_ble_eq_true rfl) rfl (Val.load 5 rfl ag3 rfl rfl) ?_
        | refine TL.valYes rfl rfl (Nat.le_of_ble_eq_true rfl) rfl (Nat.le_of_ble_eq_true rfl) rfl (Val.load 6 rfl ag3 rfl rfl) ?_
        | refine TL.valYes rfl rfl (Nat.le_of_ble_eq_true rfl) rfl (Nat.le_of_ble_eq_true rfl) rfl (Val.load 7 rfl ag3 rfl rfl) ?_
      refine TL.valYes rfl rfl (Nat.le_of_ble_eq_true rfl) rfl (Nat.le_of_ble_eq_true rfl) rfl (Val.move rfl) ?_
      refine TL.valYes rfl rfl (Nat.le_of_ble_eq_true rfl) rfl (Nat.le_of_ble_eq_true rfl) rfl (Val.same (v' := .bool false) (Val.neqI rfl rfl) (congrArg Value.bool (decide_eq_false (by simp)))) ?_
      first
        | refine TL.val rfl rfl (Nat.le_of_ble_eq_true rfl) (Val.pickAnd rfl rfl rfl) ?_
        | refine TL.val rfl rfl (Nat.le_of_ble_eq_true rfl) (Val.pickOr rfl rfl rfl) ?_
        | refine TL.val rfl rfl (Nat.le_of_ble_eq_true rfl) (Val.pick rfl rfl rfl) ?_
      refine TL.val rfl rfl (Nat.le_of_ble_eq_true rfl) (Val.move rfl) ?_
      refine TL.valYes rfl rfl (Nat.le_of_ble_eq_true rfl) rfl (Nat.le_of_ble_eq_true rfl) rfl (Val.fieldAddr rfl fl61_5 sz2 rfl) ?_
      first
        | refine TL.valYes rfl rfl (Nat.le_of_ble_eq_true rfl) rfl (Nat.le_of_ble_eq_true rfl) rfl (Val.load 0 rfl ag2 rfl rfl) ?_
        | refine TL.valYes rfl rfl (Nat.le_of_ble_eq_true rfl) rfl (Nat.le_of_ble_eq_true rfl) rfl (Val.load 1 rfl ag2 rfl rfl) ?_
        | refine TL.valYes rfl rfl (Nat.le_of_ble_eq_true rfl) rfl (Nat.le_of_ble_eq_true rfl) rfl (Val.load 2 rfl ag2 rfl rfl) ?_
        | refine TL.valYes rfl rfl (Nat.le_of_ble_eq_true rfl) rfl (Nat.le_of_ble_eq_true rfl) rfl (Val.load 3 rfl ag2 rfl rfl) ?_
        | refine TL.valYes rfl rfl (Nat.le_of_ble_eq_true rfl) rfl (Nat.le_of_ble_eq_true rfl) rfl (Val.load 4 rfl ag2 rfl rfl) ?_
        | refine TL.valYes rfl rfl (Nat.le_of_ble_eq_true rfl) rfl (Nat.le_of_ble_eq_true rfl) rfl (Val.load 5 rfl ag2 rfl rfl) ?_
        | refine TL.valYes rfl rfl (Nat.le_of_ble_eq_true rfl) rfl (Nat.le_of_ble_eq_true rfl) rfl (Val.load 6 rfl ag2 rfl rfl) ?_
        | refine TL.valYes rfl rfl (Nat.le_of_ble_eq_true rfl) rfl (Nat.le_of_ble_eq_true rfl) rfl (Val.load 7 rfl ag2 rfl rfl) ?_
      refine TL.valYes rfl rfl (Nat.le_of_ble_eq_true rfl) rfl (Nat.le_of_ble_eq_true rfl) rfl (Val.move rfl) ?_
      refine TL.valYes rfl rfl (Nat.le_of_ble_eq_true rfl) rfl (Nat.le_of_ble_eq_true rfl) rfl (Val.same (v' := .bool false) (Val.neqI rfl rfl) (congrArg Value.bool (decide_eq_false (by simp)))) ?_
      first
        | refine TL.val rfl rfl (Nat.le_of_ble_eq_true rfl) (Val.pickAnd rfl rfl rfl) ?_
        | refine TL.val rfl rfl (Nat.le_of_ble_eq_true rfl) (Val.pickOr rfl rfl rfl) ?_
        | refine TL.val rfl rfl (Nat.le_of_ble_eq_true rfl) (Val.pick rfl rfl rfl) ?_
      refine TL.val rfl rfl (Nat.le_of_ble_eq_true rfl) (Val.move rfl) ?_
      refine TL.valYes rfl rfl (Nat.le_of_ble_eq_true rfl) rfl (Nat.le_of_ble_eq_true rfl) rfl (Val.move rfl) ?_
      refine TL.valYes rfl rfl (Nat.le_of_ble_eq_true rfl) rfl (Nat.le_of_ble_eq_true rfl) rfl (Val.move rfl) ?_
      refine TL.doesYes (some 87) rfl rfl rfl (Nat.le_of_ble_eq_true rfl) rfl rfl (Does.callF go14 rfl (Corrupt_yes b 7 10 cf (some ⟨bl, 0, none⟩) N cl bb (some (bk, ck, spk)) 1 (0 + 1) (List.replicate N false) _ (by rw [List.length_replicate]; rfl) rfl (by simp; omega) (by simp) k hkN false hlF (.inr (by rw [bads_0]; omega)))) ?_
      rintro _ _ ⟨rfl, rfl⟩
      refine TL.heap (M' := (bm1, .cells #[.int .i64 1, .int .i64 ((k : Nat) : Int), .int .i64 0, .int .i64 1, .int .i64 0, .int .i64 va, .int .i64 0] 61 (0, 0)) :: gateO gb cf rb (some ⟨nb, 0, none⟩) N cn (some ⟨ob, 0, none⟩) N co 0 :: ringO rb cf.seed lb N cf.grace (0 + 1) :: (lb, row 161 ((List.replicate N (⟨0, 0⟩ : On)).flatMap On.cs)) :: (nb, row 118 (nws.map pp ++ sn)) :: (ob, row 118 (ols.map pp ++ so)) :: ((bE, row 5 (bv (sealB (macKey cf.seed ((k : Nat) : Int) 0) ⟨1, ((k : Nat) : Int), 0, 1, 0, va, 0⟩) ++ spE)) :: wob b cf (some ⟨bl, 0, none⟩) N cl bb N (some (bk, ck, spk)) 1 (0 + 1) :: (bk, row 100 ([(⟨(k : Nat), 0, 0, va⟩ : Smp)].flatMap Smp.cs ++ spk)) :: (b2, .cells #[.int .i64 (cf.n), .int .i64 (cf.f), .int .i64 (cf.m), .int .i64 (cf.quorum), .int .i64 (cf.fresh), .int .i64 (cf.grace), .int .i64 (cf.window), .int .i64 (cf.t0), .int .i64 (cf.t1), .int .i64 (cf.t2), .int .i64 (cf.t3), .int .i64 (cf.tol), .int .i64 (cf.min), .int .i64 (cf.max), .int .i64 (cf.calmup), .int .i64 (cf.calmdown), .int .i64 (cf.podsup), .int .i64 (cf.pctup), .int .i64 (cf.podsdown), .int .i64 (cf.pctdown), .int .i64 (cf.period), .int .i64 (cf.far), .int .i64 (cf.strikes), .int .i64 (cf.probe), .int .i64 (cf.sectors), .int .u64 (cf.seed)] 26 (0, 0)) :: (bb, row 4 (((List.replicate N false).set k true).map Value.bool)) :: (bl, row 57 (ss.map Sr.ptr ++ spl)) :: ((nws.map fun p => repO p cf.window 0 0 0) ++ ((ols.map fun p => repO p cf.window 0 0 0) ++ (((ss.map (sob cf.seed)).set k (sobj sb cf.seed (k : Nat) 0 (0 + 1))) ++ M))))) (fun w h => h) ?_
      refine TL.valYes rfl rfl (Nat.le_of_ble_eq_true rfl) rfl (Nat.le_of_ble_eq_true rfl) rfl (Val.neqI rfl rfl) ?_
      first
        | refine TL.val rfl rfl (Nat.le_of_ble_eq_true rfl) (Val.pickAnd rfl rfl rfl) ?_
        | refine TL.val rfl rfl (Nat.le_of_ble_eq_true rfl) (Val.pickOr rfl rfl rfl) ?_
        | refine TL.val rfl rfl (Nat.le_of_ble_eq_true rfl) (Val.pick rfl rfl rfl) ?_
      refine TL.nil ?_
      refine AtX.then ?_
      refine TC.env (E' := [(6, _), (7, _), (8, _), (9, _), (10, _), (11, _), (89, _)]) (Sub.cons rfl (Sub.cons rfl (Sub.cons rfl (Sub.cons rfl (Sub.cons rfl (Sub.cons rfl (Sub.cons rfl (Sub.nil _)))))))) ?_
      first | refine TC.condP rfl (fun c3 => ?_) (fun c3 => ?_) | refine TC.condN rfl (fun c3 => ?_) (fun c3 => ?_) | refine TC.condB rfl (fun c3 => ?_) (fun c3 => ?_) | refine TC.cond rfl (fun c3 => ?_) (fun c3 => ?_)
      · skip
        (exfalso; simp at c3)
      · skip
        refine TC.env (E' := [(6, _), (7, _), (8, _), (9, _), (10, _), (11, _)]) (Sub.cons rfl (Sub.cons rfl (Sub.cons rfl (Sub.cons rfl (Sub.cons rfl (Sub.cons rfl (Sub.nil _))))))) ?_
        refine TC.skip ?_
        refine AtX.then ?_
        refine TC.env (E' := [(6, _), (7, _), (8, _), (9, _), (10, _), (11, _)]) (Sub.cons rfl (Sub.cons rfl (Sub.cons rfl (Sub.cons rfl (Sub.cons rfl (Sub.cons rfl (Sub.nil _))))))) ?_
        refine TC.seq ?_
        refine TC.region ?_
        refine TL.val rfl rfl (Nat.le_of_ble_eq_true rfl) (Val.move rfl) ?_
        refine TL.val rfl rfl (Nat.le_of_ble_eq_true rfl) (Val.move rfl) ?_
        refine TL.val rfl rfl (Nat.le_of_ble_eq_true rfl) (Val.move rfl) ?_
        refine TL.does (some 94) rfl rfl rfl (Does.callF go23 rfl (Forge_ok b 7 10 cf (some ⟨bl, 0, none⟩) N cl bb (some (bk, ck, spk)) 1 (0 + 1) ((List.replicate N false).set k true) _ (by rw [List.length_set, List.length_replicate]; rfl) rfl (by simp) k hkN hlT ⟨by decide, by decide⟩ 0 0 va 5 0 hm5)) ?_
        rintro _ _ ⟨bF, cF, spF, rfl, hcF, rfl⟩
        refine TL.heap (M' := (bF, row 5 (bv (sealB (macKey cf.seed ((k : Nat) : Int) 0) ⟨1, ((k : Nat) : Int), 0, 5, 0, va, 0⟩) ++ spF)) :: (bm1, .cells #[.int .i64 1, .int .i64 ((k : Nat) : Int), .int .i64 0, .int .i64 1, .int .i64 0, .int .i64 va, .int .i64 0] 61 (0, 0)) :: gateO gb cf rb (some ⟨nb, 0, none⟩) N cn (some ⟨ob, 0, none⟩) N co 0 :: ringO rb cf.seed lb N cf.grace (0 + 1) :: (lb, row 161 ((List.replicate N (⟨0, 0⟩ : On)).flatMap On.cs)) :: (nb, row 118 (nws.map pp ++ sn)) :: (ob, row 118 (ols.map pp ++ so)) :: ((bE, row 5 (bv (sealB (macKey cf.seed ((k : Nat) : Int) 0) ⟨1, ((k : Nat) : Int), 0, 1, 0, va, 0⟩) ++ spE)) :: wob b cf (some ⟨bl, 0, none⟩) N cl bb N (some (bk, ck, spk)) 1 (0 + 1 + 1) :: (bk, row 100 ([(⟨(k : Nat), 0, 0, va⟩ : Smp)].flatMap Smp.cs ++ spk)) :: (b2, .cells #[.int .i64 (cf.n), .int .i64 (cf.f), .int .i64 (cf.m), .int .i64 (cf.quorum), .int .i64 (cf.fresh), .int .i64 (cf.grace), .int .i64 (cf.window), .int .i64 (cf.t0), .int .i64 (cf.t1), .int .i64 (cf.t2), .int .i64 (cf.t3), .int .i64 (cf.tol), .int .i64 (cf.min), .int .i64 (cf.max), .int .i64 (cf.calmup), .int .i64 (cf.calmdown), .int .i64 (cf.podsup), .int .i64 (cf.pctup), .int .i64 (cf.podsdown), .int .i64 (cf.pctdown), .int .i64 (cf.period), .int .i64 (cf.far), .int .i64 (cf.strikes), .int .i64 (cf.probe), .int .i64 (cf.sectors), .int .u64 (cf.seed)] 26 (0, 0)) :: (bb, row 4 (((List.replicate N false).set k true).map Value.bool)) :: (bl, row 57 (ss.map Sr.ptr ++ spl)) :: ((nws.map fun p => repO p cf.window 0 0 0) ++ ((ols.map fun p => repO p cf.window 0 0 0) ++ (((ss.map (sob cf.seed)).set k (sobj sb cf.seed (k : Nat) 0 (0 + 1))) ++ M))))) (fun w h => by rw [List.length_set, List.length_replicate] at h; exact h) ?_
        refine TL.val rfl rfl (Nat.le_of_ble_eq_true rfl) (Val.move rfl) ?_
        refine TL.val rfl rfl (Nat.le_of_ble_eq_true rfl) (Val.extract rfl rfl) ?_
        refine TL.val rfl rfl (Nat.le_of_ble_eq_true rfl) (Val.extract rfl rfl) ?_
        refine TL.val rfl rfl (Nat.le_of_ble_eq_true rfl) (Val.assign rfl) ?_
        refine TL.val rfl rfl (Nat.le_of_ble_eq_true rfl) (Val.assign rfl) ?_
        refine TL.nil ?_
        refine AtX.then ?_
        refine TC.env (E' := [(6, _), (7, _), (8, _), (9, _), (10, _), (11, _), (16, _), (17, _)]) (Sub.cons rfl (Sub.cons rfl (Sub.cons rfl (Sub.cons rfl (Sub.cons rfl (Sub.cons rfl (Sub.cons rfl (Sub.cons rfl (Sub.nil _))))))))) ?_
        refine TC.seq ?_
        refine TC.heap (M' := gateO gb cf rb (some ⟨nb, 0, none⟩) N cn (some ⟨ob, 0, none⟩) N co 0 :: ringO rb cf.seed lb N cf.grace (0 + 1) :: (lb, row 161 ((List.replicate N (⟨0, 0⟩ : On)).flatMap On.cs)) :: (nb, row 118 (nws.map pp ++ sn)) :: (ob, row 118 (ols.map pp ++ so)) :: ((bF, row 5 (bv (sealB (macKey cf.seed ((k : Nat) : Int) 0) ⟨1, ((k : Nat) : Int), 0, 5, 0, va, 0⟩) ++ spF)) :: (bm1, .cells #[.int .i64 1, .int .i64 ((k : Nat) : Int), .int .i64 0, .int .i64 1, .int .i64 0, .int .i64 va, .int .i64 0] 61 (0, 0)) :: (bE, row 5 (bv (sealB (macKey cf.seed ((k : Nat) : Int) 0) ⟨1, ((k : Nat) : Int), 0, 1, 0, va, 0⟩) ++ spE)) :: wob b cf (some ⟨bl, 0, none⟩) N cl bb N (some (bk, ck, spk)) 1 (0 + 1 + 1) :: (bk, row 100 ([(⟨(k : Nat), 0, 0, va⟩ : Smp)].flatMap Smp.cs ++ spk)) :: (b2, .cells #[.int .i64 (cf.n), .int .i64 (cf.f), .int .i64 (cf.m), .int .i64 (cf.quorum), .int .i64 (cf.fresh), .int .i64 (cf.grace), .int .i64 (cf.window), .int .i64 (cf.t0), .int .i64 (cf.t1), .int .i64 (cf.t2), .int .i64 (cf.t3), .int .i64 (cf.tol), .int .i64 (cf.min), .int .i64 (cf.max), .int .i64 (cf.calmup), .int .i64 (cf.calmdown), .int .i64 (cf.podsup), .int .i64 (cf.pctup), .int .i64 (cf.podsdown), .int .i64 (cf.pctdown), .int .i64 (cf.period), .int .i64 (cf.far), .int .i64 (cf.strikes), .int .i64 (cf.probe), .int .i64 (cf.sectors), .int .u64 (cf.seed)] 26 (0, 0)) :: (bb, row 4 (((List.replicate N false).set k true).map Value.bool)) :: (bl, row 57 (ss.map Sr.ptr ++ spl)) :: ((nws.map fun p => repO p cf.window 0 0 0) ++ ((ols.map fun p => repO p cf.window 0 0 0) ++ (((ss.map (sob cf.seed)).set k (sobj sb cf.seed (k : Nat) 0 (0 + 1))) ++ M))))) (fun w h => ro_mv (A := [_, _]) (L := [_, _, _, _, _]) w h) ?_
        refine TC.region ?_
        refine TL.val rfl rfl (Nat.le_of_ble_eq_true rfl) (Val.move rfl) ?_
        refine TL.val rfl rfl (Nat.le_of_ble_eq_true rfl) (Val.move rfl) ?_
        refine TL.does (some 100) rfl rfl rfl (Does.callF go32 rfl ((Check_nil gb rb lb nb cn ob co sn so cf N (0 + 1) 0 (List.replicate N (⟨0, 0⟩ : On)) nws ols ((bF, row 5 (bv (sealB (macKey cf.seed ((k : Nat) : Int) 0) ⟨1, ((k : Nat) : Int), 0, 5, 0, va, 0⟩) ++ spF)) :: (bm1, .cells #[.int .i64 1, .int .i64 ((k : Nat) : Int), .int .i64 0, .int .i64 1, .int .i64 0, .int .i64 va, .int .i64 0] 61 (0, 0)) :: (bE, row 5 (bv (sealB (macKey cf.seed ((k : Nat) : Int) 0) ⟨1, ((k : Nat) : Int), 0, 1, 0, va, 0⟩) ++ spE)) :: wob b cf (some ⟨bl, 0, none⟩) N cl bb N (some (bk, ck, spk)) 1 (0 + 1 + 1) :: (bk, row 100 ([(⟨(k : Nat), 0, 0, va⟩ : Smp)].flatMap Smp.cs ++ spk)) :: (b2, .cells #[.int .i64 (cf.n), .int .i64 (cf.f), .int .i64 (cf.m), .int .i64 (cf.quorum), .int .i64 (cf.fresh), .int .i64 (cf.grace), .int .i64 (cf.window), .int .i64 (cf.t0), .int .i64 (cf.t1), .int .i64 (cf.t2), .int .i64 (cf.t3), .int .i64 (cf.tol), .int .i64 (cf.min), .int .i64 (cf.max), .int .i64 (cf.calmup), .int .i64 (cf.calmdown), .int .i64 (cf.podsup), .int .i64 (cf.pctup), .int .i64 (cf.podsdown), .int .i64 (cf.pctdown), .int .i64 (cf.period), .int .i64 (cf.far), .int .i64 (cf.strikes), .int .i64 (cf.probe), .int .i64 (cf.sectors), .int .u64 (cf.seed)] 26 (0, 0)) :: (bb, row 4 (((List.replicate N false).set k true).map Value.bool)) :: (bl, row 57 (ss.map Sr.ptr ++ spl)) :: ((nws.map fun p => repO p cf.window 0 0 0) ++ ((ols.map fun p => repO p cf.window 0 0 0) ++ (((ss.map (sob cf.seed)).set k (sobj sb cf.seed (k : Nat) 0 (0 + 1))) ++ M)))) hN (by simp) hnl hol hgrc ⟨by decide, by decide⟩ k ⟨0, 0⟩ hx0 ⟨by decide, by decide⟩ ⟨by decide, by decide⟩ 1 0 5 0 va 0 ⟨by decide, by decide⟩ (by decide) 0 hcf p p2 hp hp2 (k + 8) 0 0 0 ⟨by decide, by decide⟩ (show ((nws.map fun p => repO p cf.window 0 0 0) ++ ((ols.map fun p => repO p cf.window 0 0 0) ++ (((ss.map (sob cf.seed)).set k (sobj sb cf.seed (k : Nat) 0 (0 + 1))) ++ M)))[k]? = _ from rep_at hp) ⟨by decide, by decide⟩ hm5 ⟨by decide, by decide⟩ (tagB (tagOf (macKey cf.seed ((k : Nat) : Int) 0) (putM ⟨1, ((k : Nat) : Int), 0, 5, 0, va, 0⟩))) (some ⟨bF, 0, none⟩) cF (rd_all (i := 0) (sp := spF) rfl) (by omega) (by simp)).mono (R' := fun v M' => v = .tuple #[.agg #[.int .i64 1, .int .i64 ((k : Nat) : Int), .int .i64 0, .int .i64 5, .int .i64 0, .int .i64 va, .int .i64 0], .int .i64 0] ∧ M' = (gateO gb cf rb (some ⟨nb, 0, none⟩) N cn (some ⟨ob, 0, none⟩) N co 0 :: ringO rb cf.seed lb N cf.grace ((0 + 1) + 1) :: (lb, row 161 ((List.replicate N (⟨0, 0⟩ : On)).flatMap On.cs)) :: (nb, row 118 (nws.map pp ++ sn)) :: (ob, row 118 (ols.map pp ++ so)) :: ((bF, row 5 (bv (sealB (macKey cf.seed ((k : Nat) : Int) 0) ⟨1, ((k : Nat) : Int), 0, 5, 0, va, 0⟩) ++ spF)) :: (bm1, .cells #[.int .i64 1, .int .i64 ((k : Nat) : Int), .int .i64 0, .int .i64 1, .int .i64 0, .int .i64 va, .int .i64 0] 61 (0, 0)) :: (bE, row 5 (bv (sealB (macKey cf.seed ((k : Nat) : Int) 0) ⟨1, ((k : Nat) : Int), 0, 1, 0, va, 0⟩) ++ spE)) :: wob b cf (some ⟨bl, 0, none⟩) N cl bb N (some (bk, ck, spk)) 1 (0 + 1 + 1) :: (bk, row 100 ([(⟨(k : Nat), 0, 0, va⟩ : Smp)].flatMap Smp.cs ++ spk)) :: (b2, .cells #[.int .i64 (cf.n), .int .i64 (cf.f), .int .i64 (cf.m), .int .i64 (cf.quorum), .int .i64 (cf.fresh), .int .i64 (cf.grace), .int .i64 (cf.window), .int .i64 (cf.t0), .int .i64 (cf.t1), .int .i64 (cf.t2), .int .i64 (cf.t3), .int .i64 (cf.tol), .int .i64 (cf.min), .int .i64 (cf.max), .int .i64 (cf.calmup), .int .i64 (cf.calmdown), .int .i64 (cf.podsup), .int .i64 (cf.pctup), .int .i64 (cf.podsdown), .int .i64 (cf.pctdown), .int .i64 (cf.period), .int .i64 (cf.far), .int .i64 (cf.strikes), .int .i64 (cf.probe), .int .i64 (cf.sectors), .int .u64 (cf.seed)] 26 (0, 0)) :: (bb, row 4 (((List.replicate N false).set k true).map Value.bool)) :: (bl, row 57 (ss.map Sr.ptr ++ spl)) :: ((nws.map fun p => repO p cf.window 0 0 0) ++ ((ols.map fun p => repO p cf.window 0 0 0) ++ (((ss.map (sob cf.seed)).set k (sobj sb cf.seed (k : Nat) 0 (0 + 1))) ++ M)))))) (fun v M' h => h.elim (fun h => And.intro h.2.1 h.2.2) (fun h => False.elim (h.1 (chk0 (show okK ⟨0, 0⟩ (sgen 1 0) 0 cf.grace = true from rfl) (decide_eq_true (same_yes (tagOf_bd (macKey cf.seed ((k : Nat) : Int) 0) (putM ⟨1, ((k : Nat) : Int), 0, 5, 0, va, 0⟩)).1 (tagOf_bd (macKey cf.seed ((k : Nat) : Int) 0) (putM ⟨1, ((k : Nat) : Int), 0, 5, 0, va, 0⟩)).2)) (may5 hwin) (stale0 hfr.1) (e := decide ((0 : Int) < cf.m)) (decide_eq_true (by omega)))))))) ?_
        rintro _ _ ⟨rfl, rfl⟩
        refine TL.val rfl rfl (Nat.le_of_ble_eq_true rfl) (Val.move rfl) ?_
        refine TL.val rfl rfl (Nat.le_of_ble_eq_true rfl) (Val.extract rfl rfl) ?_
        refine TL.val rfl rfl (Nat.le_of_ble_eq_true rfl) (Val.extract rfl rfl) ?_
        refine TL.does (some 18) rfl rfl rfl (Does.alloc ze61 rfl) ?_
        rintro _ _ ⟨b11, rfl, rfl⟩
        first
          | refine TL.does none rfl rfl rfl (Does.store (i := 0) rfl rfl rfl sz61 rfl rfl (by first | exact Nat.le_of_ble_eq_true rfl | decide | omega) rfl rfl) ?_
          | refine TL.does none rfl rfl rfl (Does.store (i := 1) rfl rfl rfl sz61 rfl rfl (by first | exact Nat.le_of_ble_eq_true rfl | decide | omega) rfl rfl) ?_
          | refine TL.does none rfl rfl rfl (Does.store (i := 2) rfl rfl rfl sz61 rfl rfl (by first | exact Nat.le_of_ble_eq_true rfl | decide | omega) rfl rfl) ?_
          | refine TL.does none rfl rfl rfl (Does.store (i := 3) rfl rfl rfl sz61 rfl rfl (by first | exact Nat.le_of_ble_eq_true rfl | decide | omega) rfl rfl) ?_
          | refine TL.does none rfl rfl rfl (Does.store (i := 4) rfl rfl rfl sz61 rfl rfl (by first | exact Nat.le_of_ble_eq_true rfl | decide | omega) rfl rfl) ?_
          | refine TL.does none rfl rfl rfl (Does.store (i := 5) rfl rfl rfl sz61 rfl rfl (by first | exact Nat.le_of_ble_eq_true rfl | decide | omega) rfl rfl) ?_
          | refine TL.does none rfl rfl rfl (Does.store (i := 6) rfl rfl rfl sz61 rfl rfl (by first | exact Nat.le_of_ble_eq_true rfl | decide | omega) rfl rfl) ?_
          | refine TL.does none rfl rfl rfl (Does.store (i := 7) rfl rfl rfl sz61 rfl rfl (by first | exact Nat.le_of_ble_eq_true rfl | decide | omega) rfl rfl) ?_
        rintro _ _ ⟨rfl, rfl⟩
        refine TL.val rfl rfl (Nat.le_of_ble_eq_true rfl) (Val.assign rfl) ?_
        refine TL.nil ?_
        refine AtX.then ?_
        refine TC.env (E' := [(6, _), (7, _), (8, _), (10, _), (11, _), (16, _), (17, _), (18, _), (19, _)]) (Sub.cons rfl (Sub.cons rfl (Sub.cons rfl (Sub.cons rfl (Sub.cons rfl (Sub.cons rfl (Sub.cons rfl (Sub.cons rfl (Sub.cons rfl (Sub.nil _)))))))))) ?_
        refine TC.seq ?_
        refine TC.region ?_
        refine TL.val rfl rfl (Nat.le_of_ble_eq_true rfl) (Val.move rfl) ?_
        refine TL.val rfl rfl (Nat.le_of_ble_eq_true rfl) (Val.move rfl) ?_
        refine TL.val rfl rfl (Nat.le_of_ble_eq_true rfl) (Val.add rfl rfl (r := ((k : Nat) : Int) + 1) (w_i64 (by omega) (by omega))) ?_
        refine TL.val rfl rfl (Nat.le_of_ble_eq_true rfl) (Val.fieldAddr rfl fl26_0 sz3 rfl) ?_
        refine TL.val rfl rfl (Nat.le_of_ble_eq_true rfl) (Val.load 11 rfl ag3 rfl rfl) ?_
        refine TL.val rfl rfl (Nat.le_of_ble_eq_true rfl) (Val.rem rfl rfl (by omega) (r := ((k2 : Nat) : Int)) hk2) ?_
        refine TL.val rfl rfl (Nat.le_of_ble_eq_true rfl) (Val.move rfl) ?_
        refine TL.does (some 111) rfl rfl rfl (Does.callF go23 rfl (Forge_no b 9 12 cf (some ⟨bl, 0, none⟩) N cl bb (some (bk, ck, spk)) 1 (0 + 1 + 1) ((List.replicate N false).set k true) _ (by rw [List.length_set, List.length_replicate]; rfl) rfl (by simp) k2 hk2N hlT2 0 0 va 5 0)) ?_
        rintro _ _ ⟨rfl, rfl⟩
        refine TL.val rfl rfl (Nat.le_of_ble_eq_true rfl) (Val.move rfl) ?_
        refine TL.val rfl rfl (Nat.le_of_ble_eq_true rfl) (Val.extract rfl rfl) ?_
        refine TL.val rfl rfl (Nat.le_of_ble_eq_true rfl) (Val.extract rfl rfl) ?_
        refine TL.val rfl rfl (Nat.le_of_ble_eq_true rfl) (Val.assign rfl) ?_
        refine TL.val rfl rfl (Nat.le_of_ble_eq_true rfl) (Val.assign rfl) ?_
        refine TL.nil ?_
        refine AtX.then ?_
        refine TC.env (E' := [(6, _), (8, _), (10, _), (16, _), (17, _), (18, _), (19, _), (21, _)]) (Sub.cons rfl (Sub.cons rfl (Sub.cons rfl (Sub.cons rfl (Sub.cons rfl (Sub.cons rfl (Sub.cons rfl (Sub.cons rfl (Sub.nil _))))))))) ?_
        refine TC.seq ?_
        refine TC.region ?_
        refine TL.val rfl rfl (Nat.le_of_ble_eq_true rfl) (Val.move rfl) ?_
        refine TL.does (some 116) rfl rfl rfl (Does.callF go42 rfl (Split_fn ⟨1, ((k : Nat) : Int), 0, 5, 0, va, 0⟩ (tagB (tagOf (macKey cf.seed ((k : Nat) : Int) 0) (putM ⟨1, ((k : Nat) : Int), 0, 5, 0, va, 0⟩))) (some ⟨bF, 0, none⟩) 48 cF _ (rd_all (i := 6) (sp := spF) rfl) rfl (by omega) (by simp) hm5)) ?_
        rintro _ _ ⟨σs, rfl, hoks, rfl⟩
        obtain ⟨bc, cc, spc, rfl, hcc⟩ := hoks.some (by omega)
        refine TL.val rfl rfl (Nat.le_of_ble_eq_true rfl) (Val.move rfl) ?_
        refine TL.val rfl rfl (Nat.le_of_ble_eq_true rfl) (Val.extract rfl rfl) ?_
        refine TL.val rfl rfl (Nat.le_of_ble_eq_true rfl) (Val.extract rfl rfl) ?_
        refine TL.val rfl rfl (Nat.le_of_ble_eq_true rfl) (Val.extract rfl rfl) ?_
        refine TL.val rfl rfl (Nat.le_of_ble_eq_true rfl) (Val.extract rfl rfl) ?_
        refine TL.does (some 22) rfl rfl rfl (Does.alloc ze61 rfl) ?_
        rintro _ _ ⟨b14, rfl, rfl⟩
        refine TL.does (some 24) rfl rfl rfl (Does.alloc ze73 rfl) ?_
        rintro _ _ ⟨b15, rfl, rfl⟩
        first
          | refine TL.does none rfl rfl rfl (Does.store (i := 0) rfl rfl rfl sz61 rfl rfl (by first | exact Nat.le_of_ble_eq_true rfl | decide | omega) rfl rfl) ?_
          | refine TL.does none rfl rfl rfl (Does.store (i := 1) rfl rfl rfl sz61 rfl rfl (by first | exact Nat.le_of_ble_eq_true rfl | decide | omega) rfl rfl) ?_
          | refine TL.does none rfl rfl rfl (Does.store (i := 2) rfl rfl rfl sz61 rfl rfl (by first | exact Nat.le_of_ble_eq_true rfl | decide | omega) rfl rfl) ?_
          | refine TL.does none rfl rfl rfl (Does.store (i := 3) rfl rfl rfl sz61 rfl rfl (by first | exact Nat.le_of_ble_eq_true rfl | decide | omega) rfl rfl) ?_
          | refine TL.does none rfl rfl rfl (Does.store (i := 4) rfl rfl rfl sz61 rfl rfl (by first | exact Nat.le_of_ble_eq_true rfl | decide | omega) rfl rfl) ?_
          | refine TL.does none rfl rfl rfl (Does.store (i := 5) rfl rfl rfl sz61 rfl rfl (by first | exact Nat.le_of_ble_eq_true rfl | decide | omega) rfl rfl) ?_
          | refine TL.does none rfl rfl rfl (Does.store (i := 6) rfl rfl rfl sz61 rfl rfl (by first | exact Nat.le_of_ble_eq_true rfl | decide | omega) rfl rfl) ?_
          | refine TL.does none rfl rfl rfl (Does.store (i := 7) rfl rfl rfl sz61 rfl rfl (by first | exact Nat.le_of_ble_eq_true rfl | decide | omega) rfl rfl) ?_
        rintro _ _ ⟨rfl, rfl⟩
        refine TL.val rfl rfl (Nat.le_of_ble_eq_true rfl) (Val.assign rfl) ?_
        first
          | refine TL.does none rfl rfl rfl (Does.store (i := 0) rfl rfl rfl sz73 rfl rfl (by first | exact Nat.le_of_ble_eq_true rfl | decide | omega) rfl rfl) ?_
          | refine TL.does none rfl rfl rfl (Does.store (i := 1) rfl rfl rfl sz73 rfl rfl (by first | exact Nat.le_of_ble_eq_true rfl | decide | omega) rfl rfl) ?_
          | refine TL.does none rfl rfl rfl (Does.store (i := 2) rfl rfl rfl sz73 rfl rfl (by first | exact Nat.le_of_ble_eq_true rfl | decide | omega) rfl rfl) ?_
          | refine TL.does none rfl rfl rfl (Does.store (i := 3) rfl rfl rfl sz73 rfl rfl (by first | exact Nat.le_of_ble_eq_true rfl | decide | omega) rfl rfl) ?_
          | refine TL.does none rfl rfl rfl (Does.store (i := 4) rfl rfl rfl sz73 rfl rfl (by first | exact Nat.le_of_ble_eq_true rfl | decide | omega) rfl rfl) ?_
          | refine TL.does none rfl rfl rfl (Does.store (i := 5) rfl rfl rfl sz73 rfl rfl (by first | exact Nat.le_of_ble_eq_true rfl | decide | omega) rfl rfl) ?_
          | refine TL.does none rfl rfl rfl (Does.store (i := 6) rfl rfl rfl sz73 rfl rfl (by first | exact Nat.le_of_ble_eq_true rfl | decide | omega) rfl rfl) ?_
          | refine TL.does none rfl rfl rfl (Does.store (i := 7) rfl rfl rfl sz73 rfl rfl (by first | exact Nat.le_of_ble_eq_true rfl | decide | omega) rfl rfl) ?_
        rintro _ _ ⟨rfl, rfl⟩
        refine TL.val rfl rfl (Nat.le_of_ble_eq_true rfl) (Val.assign rfl) ?_
        refine TL.nil ?_
        refine AtX.then ?_
        refine TC.env (E' := [(6, _), (8, _), (10, _), (17, _), (18, _), (19, _), (21, _), (22, _), (25, _)]) (Sub.cons rfl (Sub.cons rfl (Sub.cons rfl (Sub.cons rfl (Sub.cons rfl (Sub.cons rfl (Sub.cons rfl (Sub.cons rfl (Sub.cons rfl (Sub.nil _)))))))))) ?_
        refine TC.seq ?_
        have hhon : hon ((List.replicate N false).set k true) [(⟨(k : Nat), 0, 0, va⟩ : Smp)] 0 0 = [] := own_hon hkN
        refine TC.region ?_
        refine TL.does (some 121) rfl rfl rfl (Does.callF go13 rfl (told23_fn _)) ?_
        rintro _ _ ⟨rfl, rfl⟩
        refine TL.val rfl rfl (Nat.le_of_ble_eq_true rfl) (Val.move rfl) ?_
        refine TL.valYes rfl rfl (Nat.le_of_ble_eq_true rfl) rfl (Nat.le_of_ble_eq_true rfl) rfl (Val.move rfl) ?_
        refine TL.valYes rfl rfl (Nat.le_of_ble_eq_true rfl) rfl (Nat.le_of_ble_eq_true rfl) rfl (Val.same (v' := .bool true) (Val.eqlI rfl rfl) (rfl)) ?_
        first
          | refine TL.val rfl rfl (Nat.le_of_ble_eq_true rfl) (Val.same (v' := .bool true) (Val.pickAnd rfl rfl rfl) (rfl)) ?_
          | refine TL.val rfl rfl (Nat.le_of_ble_eq_true rfl) (Val.same (v' := .bool true) (Val.pickOr rfl rfl rfl) (rfl)) ?_
          | refine TL.val rfl rfl (Nat.le_of_ble_eq_true rfl) (Val.same (v' := .bool true) (Val.pick rfl rfl rfl) (rfl)) ?_
        refine TL.val rfl rfl (Nat.le_of_ble_eq_true rfl) (Val.move rfl) ?_
        refine TL.valYes rfl rfl (Nat.le_of_ble_eq_true rfl) rfl (Nat.le_of_ble_eq_true rfl) rfl (Val.move rfl) ?_
        refine TL.valYes rfl rfl (Nat.le_of_ble_eq_true rfl) rfl (Nat.le_of_ble_eq_true rfl) rfl (Val.same (v' := .bool true) (Val.eqlI rfl rfl) (rfl)) ?_
        first
          | refine TL.val rfl rfl (Nat.le_of_ble_eq_true rfl) (Val.same (v' := .bool true) (Val.pickAnd rfl rfl rfl) (rfl)) ?_
          | refine TL.val rfl rfl (Nat.le_of_ble_eq_true rfl) (Val.same (v' := .bool true) (Val.pickOr rfl rfl rfl) (rfl)) ?_
          | refine TL.val rfl rfl (Nat.le_of_ble_eq_true rfl) (Val.same (v' := .bool true) (Val.pick rfl rfl rfl) (rfl)) ?_
        refine TL.val rfl rfl (Nat.le_of_ble_eq_true rfl) (Val.move rfl) ?_
        refine TL.valYes rfl rfl (Nat.le_of_ble_eq_true rfl) rfl (Nat.le_of_ble_eq_true rfl) rfl (Val.fieldAddr rfl fl61_1 sz3 rfl) ?_
        first
          | refine TL.valYes rfl rfl (Nat.le_of_ble_eq_true rfl) rfl (Nat.le_of_ble_eq_true rfl) rfl (Val.load 0 rfl ag3 rfl rfl) ?_
          | refine TL.valYes rfl rfl (Nat.le_of_ble_eq_true rfl) rfl (Nat.le_of_ble_eq_true rfl) rfl (Val.load 1 rfl ag3 rfl rfl) ?_
          | refine TL.valYes rfl rfl (Nat.le_of_ble_eq_true rfl) rfl (Nat.le_of_ble_eq_true rfl) rfl (Val.load 2 rfl ag3 rfl rfl) ?_
          | refine TL.valYes rfl rfl (Nat.le_of_ble_eq_true rfl) rfl (Nat.le_of_ble_eq_true rfl) rfl (Val.load 3 rfl ag3 rfl rfl) ?_
          | refine TL.valYes rfl rfl (Nat.le_of_ble_eq_true rfl) rfl (Nat.le_of_ble_eq_true rfl) rfl (Val.load 4 rfl ag3 rfl rfl) ?_
          | refine TL.valYes rfl rfl (Nat.le_of_ble_eq_true rfl) rfl (Nat.le_of_ble_eq_true rfl) rfl (Val.load 5 rfl ag3 rfl rfl) ?_
          | refine TL.valYes rfl rfl (Nat.le_of_ble_eq_true rfl) rfl (Nat.le_of_ble_eq_true rfl) rfl (Val.load 6 rfl ag3 rfl rfl) ?_
          | refine TL.valYes rfl rfl (Nat.le_of_ble_eq_true rfl) rfl (Nat.le_of_ble_eq_true rfl) rfl (Val.load 7 rfl ag3 rfl rfl) ?_
        refine TL.valYes rfl rfl (Nat.le_of_ble_eq_true rfl) rfl (Nat.le_of_ble_eq_true rfl) rfl (Val.move rfl) ?_
        refine TL.valYes rfl rfl (Nat.le_of_ble_eq_true rfl) rfl (Nat.le_of_ble_eq_true rfl) rfl (Val.same (v' := .bool true) (Val.eqlI rfl rfl) (congrArg Value.bool (decide_eq_true rfl))) ?_
        first
          | refine TL.val rfl rfl (Nat.le_of_ble_eq_true rfl) (Val.same (v' := .bool true) (Val.pickAnd rfl rfl rfl) (rfl)) ?_
          | refine TL.val rfl rfl (Nat.le_of_ble_eq_true rfl) (Val.same (v' := .bool true) (Val.pickOr rfl rfl rfl) (rfl)) ?_
          | refine TL.val rfl rfl (Nat.le_of_ble_eq_true rfl) (Val.same (v' := .bool true) (Val.pick rfl rfl rfl) (rfl)) ?_
        refine TL.val rfl rfl (Nat.le_of_ble_eq_true rfl) (Val.move rfl) ?_
        refine TL.valYes rfl rfl (Nat.le_of_ble_eq_true rfl) rfl (Nat.le_of_ble_eq_true rfl) rfl (Val.fieldAddr rfl fl61_3 sz2 rfl) ?_
        first
          | refine TL.valYes rfl rfl (Nat.le_of_ble_eq_true rfl) rfl (Nat.le_of_ble_eq_true rfl) rfl (Val.load 0 rfl ag2 rfl rfl) ?_
          | refine TL.valYes rfl rfl (Nat.le_of_ble_eq_true rfl) rfl (Nat.le_of_ble_eq_true rfl) rfl (Val.load 1 rfl ag2 rfl rfl) ?_
          | refine TL.valYes rfl rfl (Nat.le_of_ble_eq_true rfl) rfl (Nat.le_of_ble_eq_true rfl) rfl (Val.load 2 rfl ag2 rfl rfl) ?_
          | refine TL.valYes rfl rfl (Nat.le_of_ble_eq_true rfl) rfl (Nat.le_of_ble_eq_true rfl) rfl (Val.load 3 rfl ag2 rfl rfl) ?_
          | refine TL.valYes rfl rfl (Nat.le_of_ble_eq_true rfl) rfl (Nat.le_of_ble_eq_true rfl) rfl (Val.load 4 rfl ag2 rfl rfl) ?_
          | refine TL.valYes rfl rfl (Nat.le_of_ble_eq_true rfl) rfl (Nat.le_of_ble_eq_true rfl) rfl (Val.load 5 rfl ag2 rfl rfl) ?_
          | refine TL.valYes rfl rfl (Nat.le_of_ble_eq_true rfl) rfl (Nat.le_of_ble_eq_true rfl) rfl (Val.load 6 rfl ag2 rfl rfl) ?_
          | refine TL.valYes rfl rfl (Nat.le_of_ble_eq_true rfl) rfl (Nat.le_of_ble_eq_true rfl) rfl (Val.load 7 rfl ag2 rfl rfl) ?_
        refine TL.valYes rfl rfl (Nat.le_of_ble_eq_true rfl) rfl (Nat.le_of_ble_eq_true rfl) rfl (Val.same (v' := .bool true) (Val.eqlI rfl rfl) (rfl)) ?_
        first
          | refine TL.val rfl rfl (Nat.le_of_ble_eq_true rfl) (Val.same (v' := .bool true) (Val.pickAnd rfl rfl rfl) (rfl)) ?_
          | refine TL.val rfl rfl (Nat.le_of_ble_eq_true rfl) (Val.same (v' := .bool true) (Val.pickOr rfl rfl rfl) (rfl)) ?_
          | refine TL.val rfl rfl (Nat.le_of_ble_eq_true rfl) (Val.same (v' := .bool true) (Val.pick rfl rfl rfl) (rfl)) ?_
        refine TL.val rfl rfl (Nat.le_of_ble_eq_true rfl) (Val.move rfl) ?_
        refine TL.valYes rfl rfl (Nat.le_of_ble_eq_true rfl) rfl (Nat.le_of_ble_eq_true rfl) rfl (Val.move rfl) ?_
        refine TL.valYes rfl rfl (Nat.le_of_ble_eq_true rfl) rfl (Nat.le_of_ble_eq_true rfl) rfl (Val.same (v' := .bool true) (Val.eqlI rfl rfl) (rfl)) ?_
        first
          | refine TL.val rfl rfl (Nat.le_of_ble_eq_true rfl) (Val.same (v' := .bool true) (Val.pickAnd rfl rfl rfl) (rfl)) ?_
          | refine TL.val rfl rfl (Nat.le_of_ble_eq_true rfl) (Val.same (v' := .bool true) (Val.pickOr rfl rfl rfl) (rfl)) ?_
          | refine TL.val rfl rfl (Nat.le_of_ble_eq_true rfl) (Val.same (v' := .bool true) (Val.pick rfl rfl rfl) (rfl)) ?_
        refine TL.val rfl rfl (Nat.le_of_ble_eq_true rfl) (Val.move rfl) ?_
        refine TL.valYes rfl rfl (Nat.le_of_ble_eq_true rfl) rfl (Nat.le_of_ble_eq_true rfl) rfl (Val.move rfl) ?_
        refine TL.valYes rfl rfl (Nat.le_of_ble_eq_true rfl) rfl (Nat.le_of_ble_eq_true rfl) rfl (Val.same (v' := .bool true) (Val.eqlI rfl rfl) (rfl)) ?_
        first
          | refine TL.val rfl rfl (Nat.le_of_ble_eq_true rfl) (Val.same (v' := .bool true) (Val.pickAnd rfl rfl rfl) (rfl)) ?_
          | refine TL.val rfl rfl (Nat.le_of_ble_eq_true rfl) (Val.same (v' := .bool true) (Val.pickOr rfl rfl rfl) (rfl)) ?_
          | refine TL.val rfl rfl (Nat.le_of_ble_eq_true rfl) (Val.same (v' := .bool true) (Val.pick rfl rfl rfl) (rfl)) ?_
        refine TL.val rfl rfl (Nat.le_of_ble_eq_true rfl) (Val.move rfl) ?_
        refine TL.valYes rfl rfl (Nat.le_of_ble_eq_true rfl) rfl (Nat.le_of_ble_eq_true rfl) rfl (Val.loadAgg 1 rfl ag61 sz61 rfl rfl rfl) ?_
        refine TL.valYes rfl rfl (Nat.le_of_ble_eq_true rfl) rfl (Nat.le_of_ble_eq_true rfl) rfl (Val.loadAgg 3 rfl ag61 sz61 rfl rfl rfl) ?_
        refine TL.valYes rfl rfl (Nat.le_of_ble_eq_true rfl) rfl (Nat.le_of_ble_eq_true rfl) rfl (Val.same (v' := .bool true) (Val.eqlMs (a := ⟨1, ((k : Nat) : Int), 0, 5, 0, va, 0⟩) (b := ⟨1, ((k : Nat) : Int), 0, 5, 0, va, 0⟩) rfl rfl) (congrArg Value.bool (eqbM_self _))) ?_
        first
          | refine TL.val rfl rfl (Nat.le_of_ble_eq_true rfl) (Val.same (v' := .bool true) (Val.pickAnd rfl rfl rfl) (rfl)) ?_
          | refine TL.val rfl rfl (Nat.le_of_ble_eq_true rfl) (Val.same (v' := .bool true) (Val.pickOr rfl rfl rfl) (rfl)) ?_
          | refine TL.val rfl rfl (Nat.le_of_ble_eq_true rfl) (Val.same (v' := .bool true) (Val.pick rfl rfl rfl) (rfl)) ?_
        refine TL.val rfl rfl (Nat.le_of_ble_eq_true rfl) (Val.move rfl) ?_
        refine TL.valYes rfl rfl (Nat.le_of_ble_eq_true rfl) rfl (Nat.le_of_ble_eq_true rfl) rfl (Val.move rfl) ?_
        refine TL.doesYes (some 156) rfl rfl rfl (Nat.le_of_ble_eq_true rfl) rfl rfl (Does.callF go17 rfl (Honest_fn b 12 15 cf (some ⟨bl, 0, none⟩) N cl bb (some (bk, ck, spk)) 1 (0 + 1 + 1) [(⟨(k : Nat), 0, 0, va⟩ : Smp)] ((List.replicate N false).set k true) _ (by rw [List.length_set, List.length_replicate]; rfl) rfl (by simp) (by simp; omega) (.some (rd_row0 (i := 13) (l := [(⟨(k : Nat), 0, 0, va⟩ : Smp)].flatMap Smp.cs) rfl)) rfl (by simp) 0 0)) ?_
        rintro _ _ ⟨τ, rfl, hokτ, rfl⟩
        refine TL.valYes rfl rfl (Nat.le_of_ble_eq_true rfl) rfl (Nat.le_of_ble_eq_true rfl) rfl (Val.lenSl rfl rfl sl36) ?_
        refine TL.valYes rfl rfl (Nat.le_of_ble_eq_true rfl) rfl (Nat.le_of_ble_eq_true rfl) rfl (Val.same (v' := .bool true) (Val.eqlI rfl rfl) (congrArg Value.bool (by rw [hhon]; rfl))) ?_
        first
          | refine TL.val rfl rfl (Nat.le_of_ble_eq_true rfl) (Val.same (v' := .bool true) (Val.pickAnd rfl rfl rfl) (rfl)) ?_
          | refine TL.val rfl rfl (Nat.le_of_ble_eq_true rfl) (Val.same (v' := .bool true) (Val.pickOr rfl rfl rfl) (rfl)) ?_
          | refine TL.val rfl rfl (Nat.le_of_ble_eq_true rfl) (Val.same (v' := .bool true) (Val.pick rfl rfl rfl) (rfl)) ?_
        refine TL.val rfl rfl (Nat.le_of_ble_eq_true rfl) (Val.assign rfl) ?_
        refine TL.nil ?_
        refine AtX.then ?_
        refine TC.env (E' := [(6, _)]) (Sub.cons rfl (Sub.nil _)) ?_
        refine TC.ret1 (fn := Try.f10) (fun _ _ h => h) rfl (RV.tmp rfl) (M' := M) (by repeat (first | exact ro_refl | exact ro_pre | refine ro_tail ?_ | refine ro_app ?_)) ?_
        exact ⟨rfl, rfl⟩

end Go.Proofs.Ytphoapajlcaoeaa
