/- walks -/
import Derived.Test.YtphoapajlcaoeaaA19
import Derived.Test.YtphoapajlcaoeaaES11
import Derived.Test.YtphoapajlcaoeaaE9d
set_option linter.unusedVariables false
set_option linter.unusedSimpArgs false
set_option maxRecDepth 100000
set_option maxHeartbeats 4000000
namespace Go.Proofs.Ytphoapajlcaoeaa
open Go Go.X
theorem sob_set {a c : Nat × Obj} {ss : List Sr} {s w g q : Int} {i sb : Nat} {T : Hp} (hi : i < ss.length) : (a :: c :: (ss.map (sob s) ++ T)).set (i + 2) (sobj sb s w g q) = a :: c :: ((ss.set i ⟨sb, w, g, q⟩).map (sob s) ++ T) := by
  show a :: c :: ((ss.map (sob s) ++ T).set i _) = _
  rw [List.set_append_left _ _ (by simpa using hi), List.map_set]
theorem sob_get {a c : Nat × Obj} {ss : List Sr} {s w g q : Int} {i sb : Nat} {T : Hp} (h : ss[i]? = some ⟨sb, w, g, q⟩) : (a :: c :: (ss.map (sob s) ++ T))[i + 2]? = some (sobj sb s w g q) := by
  show (ss.map (sob s) ++ T)[i]? = _
  rw [List.getElem?_append_left (by rw [List.length_map]; exact (List.getElem?_eq_some_iff.1 h).1), List.getElem?_map, h]; rfl
theorem ptr_get {ss : List Sr} {w g q : Int} {i sb : Nat} (h : ss[i]? = some ⟨sb, w, g, q⟩) : (ss.map Sr.ptr)[i]? = some (.pointer (some ⟨sb, 0, none⟩)) := by rw [List.getElem?_map, h]; rfl
theorem ptr_set {ss : List Sr} {w g q w2 g2 q2 : Int} {i sb : Nat} (h : ss[i]? = some ⟨sb, w, g, q⟩) : (ss.set i ⟨sb, w2, g2, q2⟩).map Sr.ptr = ss.map Sr.ptr := by
  rw [List.map_set]
  have h2 := ptr_get h
  obtain ⟨hk, hv⟩ := List.getElem?_eq_some_iff.1 h2
  show (ss.map Sr.ptr).set i (.pointer (some ⟨sb, 0, none⟩)) = _
  rw [← hv]
  exact List.set_getElem_self hk
theorem hmS {i N : Nat} {q v : Int} (hi : i < N) (hN : N ≤ 16) (hq : 0 ≤ q ∧ q ≤ 1) (hv : 0 ≤ v ∧ v ≤ 1099511627776) : mayM ⟨1, (i : Nat), 0, q + 1, 3, v, 0⟩ = true := mayM_iff.2 (by simp; omega)
theorem hS1 (b bl cl bb N i : Nat) (cf : Cf) (σ : Sl) (f : Nat → Int) (ss : List Sr) (ps spl : List Value) (T : Hp) (hi : i < N) (hN : N ≤ 16) (hf : 0 ≤ f i ∧ f i ≤ 1099511627776) (hss : Stands ss N i) (hps : ss.map Sr.ptr = ps) (hok : slOk σ 4 i ((kp f i).flatMap Smp.cs)) (sb : Nat) (hr : ss[i]? = some ⟨sb, i, 0, 0⟩) :
    FnC Try.prog 16 #[.pointer (some ⟨b, 0, none⟩), .int .i64 ((i : Nat) : Int), .int .i64 0, .int .i64 3, .int .i64 (f i)] (wob b cf (some ⟨bl, 0, none⟩) N cl bb N σ i ((i : Nat) : Int) :: (slH σ 100 ((kp f i).flatMap Smp.cs) ++ ((bb, row 4 ((List.replicate N false).map Value.bool)) :: (bl, row 57 (ps ++ spl)) :: (ss.map (sob cf.seed) ++ T)))) (fun u M' => ∃ (bE c' : Nat) (σ' : Sl) (r : Nat × Obj), u = .tuple #[.slice (some ⟨bE, 0, none⟩) 48 c', .int .i64 0] ∧ slOk σ' 4 (i + 1) ((kp f (i + 1)).flatMap Smp.cs) ∧ M' = r :: (wob b cf (some ⟨bl, 0, none⟩) N cl bb N σ' (i + 1) (((i + 1) : Nat) : Int) :: (slH σ' 100 ((kp f (i + 1)).flatMap Smp.cs) ++ ((bb, row 4 ((List.replicate N false).map Value.bool)) :: (bl, row 57 (ps ++ spl)) :: ((ss.set i ⟨sb, i, 0, 1⟩).map (sob cf.seed) ++ T))))) := by
  have hpl : ps.length = N := by rw [← hps, List.length_map, hss.1]
  have h := wSample_ok b bl cl bb cf σ (kp f i) (i : Nat) (List.replicate N false) ps spl 0 1 (i + 2) ((bb, row 4 ((List.replicate N false).map Value.bool)) :: (bl, row 57 (ps ++ spl)) :: (ss.map (sob cf.seed) ++ T)) rfl rfl (by rw [hpl, List.length_replicate]) sb i cf.seed 0 0 (hps ▸ ptr_get hr) (sob_get hr) (by rw [kp_len]; exact hok) (by rw [kp_len]; omega) ⟨by omega, by omega⟩ 0 3 (f i) (hmS hi hN ⟨by omega, by omega⟩ hf) (rep_get hi) (kp_no f i)
  simp only [hpl, List.length_replicate, kp_len] at h
  refine h.mono fun u M' ⟨bE, c', sp, σ', h1, h2, h3⟩ => ⟨bE, c', σ', (bE, row 5 (bv (sealB (macKey cf.seed ((i : Nat) : Int) 0) ⟨1, (i : Nat), 0, 0 + 1, 3, f i, 0⟩) ++ sp)), h1, ?_, ?_⟩
  · have e : ((kp f (i + 1)).flatMap Smp.cs) = ((kp f i).flatMap Smp.cs) ++ Smp.cs ⟨(i : Nat), 0, 3, f i⟩ := by simp [kp]
    rw [e]; exact h2
  · have e : ((kp f (i + 1)).flatMap Smp.cs) = ((kp f i).flatMap Smp.cs) ++ Smp.cs ⟨(i : Nat), 0, 3, f i⟩ := by simp [kp]
    rw [h3, sob_set (by rw [hss.1]; exact hi), e]
    rfl
theorem hS2 (b bl cl bb N i : Nat) (cf : Cf) (σ : Sl) (f : Nat → Int) (ss : List Sr) (ps spl : List Value) (T : Hp) (hi : i < N) (hN : N ≤ 16) (hf : 0 ≤ f i ∧ f i ≤ 1099511627776) (hsl : ss.length = N) (hps : ss.map Sr.ptr = ps) (hok : slOk σ 4 (i + 1) ((kp f (i + 1)).flatMap Smp.cs)) (sb : Nat) (hr : ss[i]? = some ⟨sb, i, 0, 1⟩) :
    FnC Try.prog 16 #[.pointer (some ⟨b, 0, none⟩), .int .i64 ((i : Nat) : Int), .int .i64 0, .int .i64 3, .int .i64 (f i)] (wob b cf (some ⟨bl, 0, none⟩) N cl bb N σ (i + 1) (((i + 1) : Nat) : Int) :: (slH σ 100 ((kp f (i + 1)).flatMap Smp.cs) ++ ((bb, row 4 ((List.replicate N false).map Value.bool)) :: (bl, row 57 (ps ++ spl)) :: (ss.map (sob cf.seed) ++ T)))) (fun u M' => u = .tuple #[.slice none 0 0, .int .i64 8] ∧ (wob b cf (some ⟨bl, 0, none⟩) N cl bb N σ (i + 1) (((i + 1) : Nat) : Int) :: (slH σ 100 ((kp f (i + 1)).flatMap Smp.cs) ++ ((bb, row 4 ((List.replicate N false).map Value.bool)) :: (bl, row 57 (ps ++ spl)) :: (ss.map (sob cf.seed) ++ T)))) = M') := by
  have hpl : ps.length = N := by rw [← hps, List.length_map, hsl]
  have h := wSample_twice b bl cl bb cf σ (kp f (i + 1)) ((i + 1 : Nat) : Int) (List.replicate N false) ps spl 0 1 (i + 2) ((bb, row 4 ((List.replicate N false).map Value.bool)) :: (bl, row 57 (ps ++ spl)) :: (ss.map (sob cf.seed) ++ T)) rfl rfl (by rw [hpl, List.length_replicate]) sb i cf.seed 0 1 (hps ▸ ptr_get hr) (sob_get hr) (by rw [kp_len]; exact hok) (by rw [kp_len]; omega) ⟨by omega, by omega⟩ 0 3 (f i) (hmS hi hN ⟨by omega, by omega⟩ hf) (rep_get hi) (kp_yes f i)
  simp only [hpl, List.length_replicate, kp_len] at h
  exact h
/-- quorumite/quorumitelaw23.AdverseHonest -/
theorem AdverseHonest_fn (zs vs : List Int) (A B : Option Addr) (n cA n2 cB : Nat) (who : Int) (M : Hp) (hA : RdS M A (zs.map (Value.int .i64))) (hB : RdS M B (vs.map (Value.int .i64))) (hn : n = zs.length) (hn2 : n2 = vs.length) : FnC Try.prog 4 #[.slice A n cA, .slice B n2 cB, .int .i64 who] M (fun v M' => v = .bool true ∧ M = M') := by
  subst hn2
  refine FnC.intro Try.func4 rfl 118 rfl (by simp) (fun z => ?_)
  refine TC.env (E' := [(0, _), (1, _), (2, _)]) (Sub.cons rfl (Sub.cons rfl (Sub.cons rfl (Sub.nil _)))) ?_
  refine TC.seq ?_
  refine TC.region ?_
  refine TL.val rfl rfl (Nat.le_of_ble_eq_true rfl) (Val.assign rfl) ?_
  refine TL.nil ?_
  refine AtX.then ?_
  refine TC.seq ?_
  refine TC.region ?_
  refine TL.val rfl rfl (Nat.le_of_ble_eq_true rfl) (Val.move rfl) ?_
  refine TL.does (some 20) rfl rfl rfl (Does.callF go11 rfl (Fit_fn zs A n cA _ hA hn)) ?_
  rintro _ _ ⟨cf, rfl, hcf, rfl⟩
  have hn16 := hcf.n
  have hf16 := hcf.f
  obtain ⟨N, hN⟩ : ∃ N : Nat, cf.n = N := ⟨cf.n.toNat, by omega⟩
  refine TL.does (some 7) rfl rfl rfl (Does.alloc ze26 rfl) ?_
  rintro _ _ ⟨b2, rfl, rfl⟩
  refine TL.does none rfl rfl rfl (Does.storeR (ys' := [.int .i64 (cf.n), .int .i64 (cf.f), .int .i64 (cf.m), .int .i64 (cf.quorum), .int .i64 (cf.fresh), .int .i64 (cf.grace), .int .i64 (cf.window), .int .i64 (cf.t0), .int .i64 (cf.t1), .int .i64 (cf.t2), .int .i64 (cf.t3), .int .i64 (cf.tol), .int .i64 (cf.min), .int .i64 (cf.max), .int .i64 (cf.calmup), .int .i64 (cf.calmdown), .int .i64 (cf.podsup), .int .i64 (cf.pctup), .int .i64 (cf.podsdown), .int .i64 (cf.pctdown), .int .i64 (cf.period), .int .i64 (cf.far), .int .i64 (cf.strikes), .int .i64 (cf.probe), .int .i64 (cf.sectors), .int .u64 (cf.seed)]) 0 rfl rfl rfl sz26 rfl rfl (by exact Nat.le_of_ble_eq_true rfl) rfl) ?_
  rintro _ _ ⟨rfl, rfl⟩
  refine TL.nil ?_
  refine AtX.then ?_
  refine TC.env (E' := [(1, _), (2, _), (6, _), (7, _)]) (Sub.cons rfl (Sub.cons rfl (Sub.cons rfl (Sub.cons rfl (Sub.nil _))))) ?_
  refine TC.seq ?_
  refine TC.region ?_
  refine TL.val rfl rfl (Nat.le_of_ble_eq_true rfl) (Val.loadAgg (vs := [.int .i64 (cf.n), .int .i64 (cf.f), .int .i64 (cf.m), .int .i64 (cf.quorum), .int .i64 (cf.fresh), .int .i64 (cf.grace), .int .i64 (cf.window), .int .i64 (cf.t0), .int .i64 (cf.t1), .int .i64 (cf.t2), .int .i64 (cf.t3), .int .i64 (cf.tol), .int .i64 (cf.min), .int .i64 (cf.max), .int .i64 (cf.calmup), .int .i64 (cf.calmdown), .int .i64 (cf.podsup), .int .i64 (cf.pctup), .int .i64 (cf.podsdown), .int .i64 (cf.pctdown), .int .i64 (cf.period), .int .i64 (cf.far), .int .i64 (cf.strikes), .int .i64 (cf.probe), .int .i64 (cf.sectors), .int .u64 (cf.seed)]) 0 rfl ag26 sz26 rfl rfl rfl) ?_
  refine TL.does (some 22) rfl rfl rfl (Does.callF go12 rfl (wNew_fn cf N _ hcf hN)) ?_
  rintro _ _ ⟨b, bl, cl, spl, bb, ss0, rfl, hss0, hsw0, rfl⟩
  obtain ⟨ps, hps0⟩ : ∃ ps, ps = ss0.map Sr.ptr := ⟨_, rfl⟩
  rw [← hps0]
  refine TL.val rfl rfl (Nat.le_of_ble_eq_true rfl) (Val.assign rfl) ?_
  refine TL.nil ?_
  refine AtX.then ?_
  refine TC.env (E' := [(1, _), (2, _), (6, _), (7, _), (8, _)]) (Sub.cons rfl (Sub.cons rfl (Sub.cons rfl (Sub.cons rfl (Sub.cons rfl (Sub.nil _)))))) ?_
  refine TC.seq ?_
  refine TC.seq ?_
  refine TC.region ?_
  refine TL.val rfl rfl (Nat.le_of_ble_eq_true rfl) (Val.move rfl) ?_
  refine TL.val rfl rfl (Nat.le_of_ble_eq_true rfl) (Val.eqlNil rfl rfl pt28) ?_
  refine TL.nil ?_
  refine AtX.then ?_
  refine TC.env (E' := [(1, _), (2, _), (6, _), (7, _), (8, _), (24, _)]) (Sub.cons rfl (Sub.cons rfl (Sub.cons rfl (Sub.cons rfl (Sub.cons rfl (Sub.cons rfl (Sub.nil _))))))) ?_
  first | refine TC.condP rfl (fun c1 => ?_) (fun c1 => ?_) | refine TC.condN rfl (fun c1 => ?_) (fun c1 => ?_) | refine TC.condB rfl (fun c1 => ?_) (fun c1 => ?_) | refine TC.cond rfl (fun c1 => ?_) (fun c1 => ?_)
  · skip
    (exfalso; simp at c1)
  · skip
    refine TC.env (E' := [(1, _), (2, _), (6, _), (7, _), (8, _)]) (Sub.cons rfl (Sub.cons rfl (Sub.cons rfl (Sub.cons rfl (Sub.cons rfl (Sub.nil _)))))) ?_
    refine TC.skip ?_
    refine AtX.then ?_
    refine TC.env (E' := [(1, _), (2, _), (6, _), (7, _), (8, _)]) (Sub.cons rfl (Sub.cons rfl (Sub.cons rfl (Sub.cons rfl (Sub.cons rfl (Sub.nil _)))))) ?_
    refine TC.seq ?_
    refine TC.region ?_
    refine TL.val rfl rfl (Nat.le_of_ble_eq_true rfl) (Val.assign rfl) ?_
    refine TL.nil ?_
    refine AtX.then ?_
    refine TC.env (E' := [(1, _), (2, _), (6, _), (7, _), (8, _), (9, _)]) (Sub.cons rfl (Sub.cons rfl (Sub.cons rfl (Sub.cons rfl (Sub.cons rfl (Sub.cons rfl (Sub.nil _))))))) ?_
    refine TC.seq ?_
    obtain ⟨r, hr, gr, lr⟩ := rem_ex (m := IntKind.u64.wrap who) (d := cf.n) (by rw [w_u64m]; omega) (by omega)
    obtain ⟨k, rfl⟩ : ∃ k : Nat, r = k := ⟨r.toNat, by omega⟩
    refine TC.heap (M' := (wob b cf (some ⟨bl, 0, none⟩) N cl bb N none 0 ((0 : Nat) : Int) :: (slH none 100 ((kp (vOf vs) 0).flatMap Smp.cs) ++ ((bb, row 4 ((List.replicate N false).map Value.bool)) :: (bl, row 57 (ps ++ spl)) :: (ss0.map (sob cf.seed) ++ ((b2, .cells #[.int .i64 (cf.n), .int .i64 (cf.f), .int .i64 (cf.m), .int .i64 (cf.quorum), .int .i64 (cf.fresh), .int .i64 (cf.grace), .int .i64 (cf.window), .int .i64 (cf.t0), .int .i64 (cf.t1), .int .i64 (cf.t2), .int .i64 (cf.t3), .int .i64 (cf.tol), .int .i64 (cf.min), .int .i64 (cf.max), .int .i64 (cf.calmup), .int .i64 (cf.calmdown), .int .i64 (cf.podsup), .int .i64 (cf.pctup), .int .i64 (cf.podsdown), .int .i64 (cf.pctdown), .int .i64 (cf.period), .int .i64 (cf.far), .int .i64 (cf.strikes), .int .i64 (cf.probe), .int .i64 (cf.sectors), .int .u64 (cf.seed)] 26 (0, 0)) :: (slH none 2 ((wt (vOf vs) k cf.f 0).map (Value.int .i64)) ++ M))))))) (fun w h => h) ?_
    refine TC.region ?_
    refine TL.val rfl rfl (Nat.le_of_ble_eq_true rfl) (Val.move rfl) ?_
    refine TL.val rfl rfl (Nat.le_of_ble_eq_true rfl) (Val.convI rfl iu3 in32 rfl) ?_
    refine TL.val rfl rfl (Nat.le_of_ble_eq_true rfl) (Val.fieldAddr rfl fl26_0 sz3 rfl) ?_
    refine TL.val rfl rfl (Nat.le_of_ble_eq_true rfl) (Val.loadMem rfl ag3 memT rfl) ?_
    first
      | refine TL.val rfl rfl (Nat.le_of_ble_eq_true rfl) (Val.convI rfl iu3 in32 (w_u64 (by omega) (by omega))) ?_
      | refine TL.val rfl rfl (Nat.le_of_ble_eq_true rfl) (Val.convI rfl iu3 in32 rfl) ?_
    refine TL.val rfl rfl (Nat.le_of_ble_eq_true rfl) (Val.rem rfl rfl (by omega) (r := ((k : Nat) : Int)) hr) ?_
    first
      | refine TL.val rfl rfl (Nat.le_of_ble_eq_true rfl) (Val.convI rfl iu32 in3 (w_i64 (by omega) (by omega))) ?_
      | refine TL.val rfl rfl (Nat.le_of_ble_eq_true rfl) (Val.convI rfl iu32 in3 rfl) ?_
    refine TL.val rfl rfl (Nat.le_of_ble_eq_true rfl) (Val.assign rfl) ?_
    refine TL.nil ?_
    refine AtX.then ?_
    refine TC.env (E' := [(1, _), (6, _), (7, _), (8, _), (9, _), (10, _)]) (Sub.cons rfl (Sub.cons rfl (Sub.cons rfl (Sub.cons rfl (Sub.cons rfl (Sub.cons rfl (Sub.nil _))))))) ?_
    refine TC.seq ?_
    refine TC.seq ?_
    refine TC.region ?_
    refine TL.val rfl rfl (Nat.le_of_ble_eq_true rfl) (Val.assign rfl) ?_
    refine TL.nil ?_
    refine AtX.then ?_
    refine TC.env (E' := [(1, _), (6, _), (7, _), (8, _), (9, _), (10, _), (11, _)]) (Sub.cons rfl (Sub.cons rfl (Sub.cons rfl (Sub.cons rfl (Sub.cons rfl (Sub.cons rfl (Sub.cons rfl (Sub.nil _)))))))) ?_
    refine TC.block ?_
    refine TC.loop (ι := (Nat × List Sr × Sl × Sl)) (fun i => [(1, .slice B vs.length cB), (7, .pointer (some ⟨b2, 0, none⟩)), (8, .pointer (some ⟨b, 0, none⟩)), (9, .slice (slA i.2.2.2) (wt (vOf vs) k cf.f i.1).length (slC i.2.2.2)), (10, .int .i64 ((k : Nat) : Int)), (11, .int .i64 ((i.1 : Nat) : Int))]) (fun i => (wob b cf (some ⟨bl, 0, none⟩) N cl bb N i.2.2.1 i.1 ((i.1 : Nat) : Int) :: (slH i.2.2.1 100 ((kp (vOf vs) i.1).flatMap Smp.cs) ++ ((bb, row 4 ((List.replicate N false).map Value.bool)) :: (bl, row 57 (ps ++ spl)) :: (i.2.1.map (sob cf.seed) ++ ((b2, .cells #[.int .i64 (cf.n), .int .i64 (cf.f), .int .i64 (cf.m), .int .i64 (cf.quorum), .int .i64 (cf.fresh), .int .i64 (cf.grace), .int .i64 (cf.window), .int .i64 (cf.t0), .int .i64 (cf.t1), .int .i64 (cf.t2), .int .i64 (cf.t3), .int .i64 (cf.tol), .int .i64 (cf.min), .int .i64 (cf.max), .int .i64 (cf.calmup), .int .i64 (cf.calmdown), .int .i64 (cf.podsup), .int .i64 (cf.pctup), .int .i64 (cf.podsdown), .int .i64 (cf.pctdown), .int .i64 (cf.period), .int .i64 (cf.far), .int .i64 (cf.strikes), .int .i64 (cf.probe), .int .i64 (cf.sectors), .int .u64 (cf.seed)] 26 (0, 0)) :: (slH i.2.2.2 2 ((wt (vOf vs) k cf.f i.1).map (Value.int .i64)) ++ M))))))) (fun i => i.1 ≤ N ∧ i.1 ≤ vs.length ∧ Stands i.2.1 N i.1 ∧ i.2.1.map Sr.ptr = ps ∧ slOk i.2.2.1 4 i.1 ((kp (vOf vs) i.1).flatMap Smp.cs) ∧ slOk i.2.2.2 1 (wt (vOf vs) k cf.f i.1).length ((wt (vOf vs) k cf.f i.1).map (Value.int .i64))) (fun i => N - i.1) (0, ss0, none, none) ?_ (Sub.cons rfl (Sub.cons rfl (Sub.cons rfl (Sub.cons rfl (Sub.cons rfl (Sub.cons rfl (Sub.nil _))))))) (fun _ h => h) ?_
    · exact ⟨Nat.zero_le _, Nat.zero_le _, ⟨hss0, fun j r hj => by have := hsw0 j r hj; simpa using this⟩, hps0.symm, slOk_nil 4, slOk_nil 1⟩
    rintro ⟨i, ss, σ, τ⟩ ⟨hiN, hiv, hst, hps, hok, hokw⟩
    dsimp only at hiN hiv hst hps hok hokw ⊢
    refine TC.seq ?_
    refine TC.seq ?_
    refine TC.region ?_
    refine TL.val rfl rfl (Nat.le_of_ble_eq_true rfl) (Val.move rfl) ?_
    refine TL.val rfl rfl (Nat.le_of_ble_eq_true rfl) (Val.fieldAddr rfl fl26_0 sz3 rfl) ?_
    refine TL.val rfl rfl (Nat.le_of_ble_eq_true rfl) (Val.loadMem rfl ag3 memT rfl) ?_
    refine TL.val rfl rfl (Nat.le_of_ble_eq_true rfl) (Val.lss rfl rfl) ?_
    refine TL.val rfl rfl (Nat.le_of_ble_eq_true rfl) (Val.move rfl) ?_
    refine TL.gen (fun g4 hg4 => ?_)
    refine TL.gval rfl rfl (Nat.le_of_ble_eq_true rfl) rfl (Nat.le_of_ble_eq_true rfl) rfl (fun hg => by subst hg; exact (Val.move rfl)) ?_
    refine TL.gval rfl rfl (Nat.le_of_ble_eq_true rfl) rfl (Nat.le_of_ble_eq_true rfl) rfl (fun hg => by subst hg; exact (Val.move rfl)) ?_
    refine TL.gval rfl rfl (Nat.le_of_ble_eq_true rfl) rfl (Nat.le_of_ble_eq_true rfl) rfl (fun hg => by subst hg; exact (Val.lenSl rfl rfl sl36)) ?_
    refine TL.gval rfl rfl (Nat.le_of_ble_eq_true rfl) rfl (Nat.le_of_ble_eq_true rfl) rfl (fun hg => by subst hg; exact (Val.lss rfl rfl)) ?_
    first
      | refine TL.val rfl rfl (Nat.le_of_ble_eq_true rfl) (Val.pickAnd rfl rfl rfl) ?_
      | refine TL.val rfl rfl (Nat.le_of_ble_eq_true rfl) (Val.pickOr rfl rfl rfl) ?_
      | refine TL.val rfl rfl (Nat.le_of_ble_eq_true rfl) (Val.pick rfl rfl rfl) ?_
    refine TL.nil ?_
    refine AtX.then ?_
    first | refine TC.condP rfl (fun c2 => ?_) (fun c2 => ?_) | refine TC.condN rfl (fun c2 => ?_) (fun c2 => ?_) | refine TC.condB rfl (fun c2 => ?_) (fun c2 => ?_) | refine TC.cond rfl (fun c2 => ?_) (fun c2 => ?_)
    · skip
      refine TC.skip ?_
      refine AtX.then ?_
      refine TC.seq ?_
      refine TC.block ?_
      refine TC.seq ?_
      have hlt : i < N ∧ i < vs.length := by clear hst hps hok hokw; grind
      obtain ⟨x, hx⟩ : ∃ x, vs[i]? = some x := ⟨_, List.getElem?_eq_getElem hlt.2⟩
      obtain ⟨bB, oB, rfl, hRB⟩ := RdS.get hB (by simp; omega)
      obtain ⟨sb, hsb⟩ := hst.at hlt.1
      have hvb := vOf_bd vs i
      have hvx : vOf vs i = (IntKind.u64.wrap x).tmod 1099511627777 := by unfold vOf; rw [List.getD_eq_getElem?_getD, hx]; rfl
      have hwl := wt_le (vOf vs) k cf.f i
      refine TC.region ?_
      refine TL.val rfl rfl (Nat.le_of_ble_eq_true rfl) (Val.move rfl) ?_
      refine TL.val rfl rfl (Nat.le_of_ble_eq_true rfl) (Val.move rfl) ?_
      refine TL.val rfl rfl (Nat.le_of_ble_eq_true rfl) (Val.indexAddr (i := i) (r := oB + i) rfl rfl sl36 sz2 rfl hlt.2 (by omega)) ?_
      refine TL.val rfl rfl (Nat.le_of_ble_eq_true rfl) (Val.loadRd (o := oB) (j := i) rfl ag2 (Rd.cons _ (Rd.app _ (Rd.cons _ (Rd.cons _ (Rd.app _ (Rd.cons _ (Rd.app _ hRB))))))) rfl (map_get hx)) ?_
      refine TL.val rfl rfl (Nat.le_of_ble_eq_true rfl) (Val.convI rfl iu2 in24 rfl) ?_
      refine TL.val rfl rfl (Nat.le_of_ble_eq_true rfl) (Val.rem rfl rfl (by decide) (r := vOf vs i) hvx.symm) ?_
      refine TL.val rfl rfl (Nat.le_of_ble_eq_true rfl) (Val.convI rfl iu24 in2 (w_i64 (by omega) (by omega))) ?_
      refine TL.val rfl rfl (Nat.le_of_ble_eq_true rfl) (Val.assign rfl) ?_
      refine TL.nil ?_
      refine AtX.then ?_
      refine TC.seq ?_
      refine TC.seq ?_
      refine TC.region ?_
      refine TL.val rfl rfl (Nat.le_of_ble_eq_true rfl) (Val.move rfl) ?_
      refine TL.val rfl rfl (Nat.le_of_ble_eq_true rfl) (Val.move rfl) ?_
      refine TL.val rfl rfl (Nat.le_of_ble_eq_true rfl) (Val.move rfl) ?_
      refine TL.does (some 55) rfl rfl rfl (Does.callF go16 rfl (hS1 b bl cl bb N i cf σ (vOf vs) ss ps spl _ hlt.1 (by omega) (vOf_bd vs i) hst hps hok sb hsb)) ?_
      rintro _ _ ⟨bE, cE, σ1, rE, rfl, hok1, rfl⟩
      refine TL.heap (M' := (wob b cf (some ⟨bl, 0, none⟩) N cl bb N σ1 (i + 1) (((i + 1) : Nat) : Int) :: (slH σ1 100 ((kp (vOf vs) (i + 1)).flatMap Smp.cs) ++ ((bb, row 4 ((List.replicate N false).map Value.bool)) :: (bl, row 57 (ps ++ spl)) :: ((ss.set i ⟨sb, i, 0, 1⟩).map (sob cf.seed) ++ ((b2, .cells #[.int .i64 (cf.n), .int .i64 (cf.f), .int .i64 (cf.m), .int .i64 (cf.quorum), .int .i64 (cf.fresh), .int .i64 (cf.grace), .int .i64 (cf.window), .int .i64 (cf.t0), .int .i64 (cf.t1), .int .i64 (cf.t2), .int .i64 (cf.t3), .int .i64 (cf.tol), .int .i64 (cf.min), .int .i64 (cf.max), .int .i64 (cf.calmup), .int .i64 (cf.calmdown), .int .i64 (cf.podsup), .int .i64 (cf.pctup), .int .i64 (cf.podsdown), .int .i64 (cf.pctdown), .int .i64 (cf.period), .int .i64 (cf.far), .int .i64 (cf.strikes), .int .i64 (cf.probe), .int .i64 (cf.sectors), .int .u64 (cf.seed)] 26 (0, 0)) :: (slH τ 2 ((wt (vOf vs) k cf.f i).map (Value.int .i64)) ++ M))))))) (fun w h => h.drop) ?_
      refine TL.val rfl rfl (Nat.le_of_ble_eq_true rfl) (Val.move rfl) ?_
      refine TL.val rfl rfl (Nat.le_of_ble_eq_true rfl) (Val.extract rfl rfl) ?_
      refine TL.val rfl rfl (Nat.le_of_ble_eq_true rfl) (Val.extract rfl rfl) ?_
      refine TL.val rfl rfl (Nat.le_of_ble_eq_true rfl) (Val.assign rfl) ?_
      refine TL.val rfl rfl (Nat.le_of_ble_eq_true rfl) (Val.assign rfl) ?_
      refine TL.nil ?_
      refine AtX.then ?_
      refine TC.env (E' := [(1, _), (7, _), (8, _), (9, _), (10, _), (11, _), (12, _), (14, _), (32, _), (33, _), (34, _), (35, _), (36, _), (37, _), (38, _), (39, _), (40, _), (41, _), (44, _), (45, _), (46, _), (47, _), (48, _), (49, _), (50, _), (51, _), (52, _), (53, _), (54, _), (55, _), (56, _), (57, _)]) (Sub.cons rfl (Sub.cons rfl (Sub.cons rfl (Sub.cons rfl (Sub.cons rfl (Sub.cons rfl (Sub.cons rfl (Sub.cons rfl (Sub.cons rfl (Sub.cons rfl (Sub.cons rfl (Sub.cons rfl (Sub.cons rfl (Sub.cons rfl (Sub.cons rfl (Sub.cons rfl (Sub.cons rfl (Sub.cons rfl (Sub.cons rfl (Sub.cons rfl (Sub.cons rfl (Sub.cons rfl (Sub.cons rfl (Sub.cons rfl (Sub.cons rfl (Sub.cons rfl (Sub.cons rfl (Sub.cons rfl (Sub.cons rfl (Sub.cons rfl (Sub.cons rfl (Sub.cons rfl (Sub.nil _))))))))))))))))))))))))))))))))) ?_
      refine TC.seq ?_
      refine TC.region ?_
      refine TL.val rfl rfl (Nat.le_of_ble_eq_true rfl) (Val.move rfl) ?_
      refine TL.val rfl rfl (Nat.le_of_ble_eq_true rfl) (Val.neqI rfl rfl) ?_
      refine TL.nil ?_
      refine AtX.then ?_
      refine TC.env (E' := [(1, _), (7, _), (8, _), (9, _), (10, _), (11, _), (12, _), (14, _), (32, _), (33, _), (34, _), (35, _), (36, _), (37, _), (38, _), (39, _), (40, _), (41, _), (44, _), (45, _), (46, _), (47, _), (48, _), (49, _), (50, _), (51, _), (52, _), (53, _), (54, _), (55, _), (56, _), (57, _), (58, _), (59, _)]) (Sub.cons rfl (Sub.cons rfl (Sub.cons rfl (Sub.cons rfl (Sub.cons rfl (Sub.cons rfl (Sub.cons rfl (Sub.cons rfl (Sub.cons rfl (Sub.cons rfl (Sub.cons rfl (Sub.cons rfl (Sub.cons rfl (Sub.cons rfl (Sub.cons rfl (Sub.cons rfl (Sub.cons rfl (Sub.cons rfl (Sub.cons rfl (Sub.cons rfl (Sub.cons rfl (Sub.cons rfl (Sub.cons rfl (Sub.cons rfl (Sub.cons rfl (Sub.cons rfl (Sub.cons rfl (Sub.cons rfl (Sub.cons rfl (Sub.cons rfl (Sub.cons rfl (Sub.cons rfl (Sub.cons rfl (Sub.cons rfl (Sub.nil _))))))))))))))))))))))))))))))))))) ?_
      first | refine TC.condP rfl (fun c3 => ?_) (fun c3 => ?_) | refine TC.condN rfl (fun c3 => ?_) (fun c3 => ?_) | refine TC.condB rfl (fun c3 => ?_) (fun c3 => ?_) | refine TC.cond rfl (fun c3 => ?_) (fun c3 => ?_)
      · skip
        exact absurd rfl c3
      · skip
        refine TC.env (E' := [(1, _), (7, _), (8, _), (9, _), (10, _), (11, _), (12, _), (14, _), (32, _), (33, _), (34, _), (35, _), (36, _), (37, _), (38, _), (39, _), (40, _), (41, _), (44, _), (45, _), (46, _), (47, _), (48, _), (49, _), (50, _), (51, _), (52, _), (53, _), (54, _), (55, _), (56, _), (57, _), (58, _), (59, _)]) (Sub.cons rfl (Sub.cons rfl (Sub.cons rfl (Sub.cons rfl (Sub.cons rfl (Sub.cons rfl (Sub.cons rfl (Sub.cons rfl (Sub.cons rfl (Sub.cons rfl (Sub.cons rfl (Sub.cons rfl (Sub.cons rfl (Sub.cons rfl (Sub.cons rfl (Sub.cons rfl (Sub.cons rfl (Sub.cons rfl (Sub.cons rfl (Sub.cons rfl (Sub.cons rfl (Sub.cons rfl (Sub.cons rfl (Sub.cons rfl (Sub.cons rfl (Sub.cons rfl (Sub.cons rfl (Sub.cons rfl (Sub.cons rfl (Sub.cons rfl (Sub.cons rfl (Sub.cons rfl (Sub.cons rfl (Sub.cons rfl (Sub.nil _))))))))))))))))))))))))))))))))))) ?_
        refine TC.skip ?_
        refine AtX.then ?_
        refine TC.env (E' := [(1, _), (7, _), (8, _), (9, _), (10, _), (11, _), (12, _), (14, _), (32, _), (33, _), (34, _), (35, _), (36, _), (37, _), (38, _), (39, _), (40, _), (41, _), (44, _), (45, _), (46, _), (47, _), (48, _), (49, _), (50, _), (51, _), (52, _), (53, _), (54, _), (55, _), (56, _), (57, _), (58, _), (59, _)]) (Sub.cons rfl (Sub.cons rfl (Sub.cons rfl (Sub.cons rfl (Sub.cons rfl (Sub.cons rfl (Sub.cons rfl (Sub.cons rfl (Sub.cons rfl (Sub.cons rfl (Sub.cons rfl (Sub.cons rfl (Sub.cons rfl (Sub.cons rfl (Sub.cons rfl (Sub.cons rfl (Sub.cons rfl (Sub.cons rfl (Sub.cons rfl (Sub.cons rfl (Sub.cons rfl (Sub.cons rfl (Sub.cons rfl (Sub.cons rfl (Sub.cons rfl (Sub.cons rfl (Sub.cons rfl (Sub.cons rfl (Sub.cons rfl (Sub.cons rfl (Sub.cons rfl (Sub.cons rfl (Sub.cons rfl (Sub.cons rfl (Sub.nil _))))))))))))))))))))))))))))))))))) ?_
        refine TC.seq ?_
        refine TC.seq ?_
        refine TC.region ?_
        refine TL.val rfl rfl (Nat.le_of_ble_eq_true rfl) (Val.move rfl) ?_
        refine TL.val rfl rfl (Nat.le_of_ble_eq_true rfl) (Val.move rfl) ?_
        refine TL.val rfl rfl (Nat.le_of_ble_eq_true rfl) (Val.move rfl) ?_
        refine TL.does (some 64) rfl rfl rfl (Does.callF go16 rfl (hS2 b bl cl bb N i cf σ1 (vOf vs) (ss.set i ⟨sb, i, 0, 1⟩) ps spl _ hlt.1 (by omega) (vOf_bd vs i) (by simp [hst.1]) (by rw [ptr_set hsb]; exact hps) hok1 sb (by rw [List.getElem?_set, if_pos rfl, if_pos (by rw [hst.1]; exact hlt.1)]))) ?_
        rintro _ _ ⟨rfl, rfl⟩
        refine TL.val rfl rfl (Nat.le_of_ble_eq_true rfl) (Val.move rfl) ?_
        refine TL.val rfl rfl (Nat.le_of_ble_eq_true rfl) (Val.extract rfl rfl) ?_
        refine TL.val rfl rfl (Nat.le_of_ble_eq_true rfl) (Val.extract rfl rfl) ?_
        refine TL.val rfl rfl (Nat.le_of_ble_eq_true rfl) (Val.assign rfl) ?_
        refine TL.val rfl rfl (Nat.le_of_ble_eq_true rfl) (Val.assign rfl) ?_
        refine TL.nil ?_
        refine AtX.then ?_
        refine TC.env (E' := [(1, _), (7, _), (8, _), (9, _), (10, _), (11, _), (12, _), (14, _), (16, _), (32, _), (33, _), (34, _), (35, _), (36, _), (37, _), (38, _), (39, _), (40, _), (41, _), (44, _), (45, _), (46, _), (47, _), (48, _), (49, _), (50, _), (51, _), (52, _), (53, _), (54, _), (55, _), (56, _), (57, _), (58, _), (59, _), (60, _), (61, _), (62, _), (63, _), (64, _), (65, _), (66, _)]) (Sub.cons rfl (Sub.cons rfl (Sub.cons rfl (Sub.cons rfl (Sub.cons rfl (Sub.cons rfl (Sub.cons rfl (Sub.cons rfl (Sub.cons rfl (Sub.cons rfl (Sub.cons rfl (Sub.cons rfl (Sub.cons rfl (Sub.cons rfl (Sub.cons rfl (Sub.cons rfl (Sub.cons rfl (Sub.cons rfl (Sub.cons rfl (Sub.cons rfl (Sub.cons rfl (Sub.cons rfl (Sub.cons rfl (Sub.cons rfl (Sub.cons rfl (Sub.cons rfl (Sub.cons rfl (Sub.cons rfl (Sub.cons rfl (Sub.cons rfl (Sub.cons rfl (Sub.cons rfl (Sub.cons rfl (Sub.cons rfl (Sub.cons rfl (Sub.cons rfl (Sub.cons rfl (Sub.cons rfl (Sub.cons rfl (Sub.cons rfl (Sub.cons rfl (Sub.cons rfl (Sub.nil _))))))))))))))))))))))))))))))))))))))))))) ?_
        refine TC.seq ?_
        refine TC.region ?_
        refine TL.val rfl rfl (Nat.le_of_ble_eq_true rfl) (Val.move rfl) ?_
        refine TL.val rfl rfl (Nat.le_of_ble_eq_true rfl) (Val.neqI rfl rfl) ?_
        refine TL.nil ?_
        refine AtX.then ?_
        refine TC.env (E' := [(1, _), (7, _), (8, _), (9, _), (10, _), (11, _), (12, _), (14, _), (16, _), (32, _), (33, _), (34, _), (35, _), (36, _), (37, _), (38, _), (39, _), (40, _), (41, _), (44, _), (45, _), (46, _), (47, _), (48, _), (49, _), (50, _), (51, _), (52, _), (53, _), (54, _), (55, _), (56, _), (57, _), (58, _), (59, _), (60, _), (61, _), (62, _), (63, _), (64, _), (65, _), (66, _), (67, _), (68, _)]) (Sub.cons rfl (Sub.cons rfl (Sub.cons rfl (Sub.cons rfl (Sub.cons rfl (Sub.cons rfl (Sub.cons rfl (Sub.cons rfl (Sub.cons rfl (Sub.cons rfl (Sub.cons rfl (Sub.cons rfl (Sub.cons rfl (Sub.cons rfl (Sub.cons rfl (Sub.cons rfl (Sub.cons rfl (Sub.cons rfl (Sub.cons rfl (Sub.cons rfl (Sub.cons rfl (Sub.cons rfl (Sub.cons rfl (Sub.cons rfl (Sub.cons rfl (Sub.cons rfl (Sub.cons rfl (Sub.cons rfl (Sub.cons rfl (Sub.cons rfl (Sub.cons rfl (Sub.cons rfl (Sub.cons rfl (Sub.cons rfl (Sub.cons rfl (Sub.cons rfl (Sub.cons rfl (Sub.cons rfl (Sub.cons rfl (Sub.cons rfl (Sub.cons rfl (Sub.cons rfl (Sub.cons rfl (Sub.cons rfl (Sub.nil _))))))))))))))))))))))))))))))))))))))))))))) ?_
        first | refine TC.condP rfl (fun c4 => ?_) (fun c4 => ?_) | refine TC.condN rfl (fun c4 => ?_) (fun c4 => ?_) | refine TC.condB rfl (fun c4 => ?_) (fun c4 => ?_) | refine TC.cond rfl (fun c4 => ?_) (fun c4 => ?_)
        · skip
          exact absurd rfl c4
        · skip
          refine TC.env (E' := [(1, _), (7, _), (8, _), (9, _), (10, _), (11, _), (12, _), (14, _), (16, _), (32, _), (33, _), (34, _), (35, _), (36, _), (37, _), (38, _), (39, _), (40, _), (41, _), (44, _), (45, _), (46, _), (47, _), (48, _), (49, _), (50, _), (51, _), (52, _), (53, _), (54, _), (55, _), (56, _), (57, _), (58, _), (59, _), (60, _), (61, _), (62, _), (63, _), (64, _), (65, _), (66, _), (67, _), (68, _)]) (Sub.cons rfl (Sub.cons rfl (Sub.cons rfl (Sub.cons rfl (Sub.cons rfl (Sub.cons rfl (Sub.cons rfl (Sub.cons rfl (Sub.cons rfl (Sub.cons rfl (Sub.cons rfl (Sub.cons rfl (Sub.cons rfl (Sub.cons rfl (Sub.cons rfl (Sub.cons rfl (Sub.cons rfl (Sub.cons rfl (Sub.cons rfl (Sub.cons rfl (Sub.cons rfl (Sub.cons rfl (Sub.cons rfl (Sub.cons rfl (Sub.cons rfl (Sub.cons rfl (Sub.cons rfl (Sub.cons rfl (Sub.cons rfl (Sub.cons rfl (Sub.cons rfl (Sub.cons rfl (Sub.cons rfl (Sub.cons rfl (Sub.cons rfl (Sub.cons rfl (Sub.cons rfl (Sub.cons rfl (Sub.cons rfl (Sub.cons rfl (Sub.cons rfl (Sub.cons rfl (Sub.cons rfl (Sub.cons rfl (Sub.nil _))))))))))))))))))))))))))))))))))))))))))))) ?_
          refine TC.skip ?_
          refine AtX.then ?_
          refine TC.env (E' := [(1, _), (7, _), (8, _), (9, _), (10, _), (11, _), (12, _), (14, _), (16, _), (32, _), (33, _), (34, _), (35, _), (36, _), (37, _), (38, _), (39, _), (40, _), (41, _), (44, _), (45, _), (46, _), (47, _), (48, _), (49, _), (50, _), (51, _), (52, _), (53, _), (54, _), (55, _), (56, _), (57, _), (58, _), (59, _), (60, _), (61, _), (62, _), (63, _), (64, _), (65, _), (66, _), (67, _), (68, _)]) (Sub.cons rfl (Sub.cons rfl (Sub.cons rfl (Sub.cons rfl (Sub.cons rfl (Sub.cons rfl (Sub.cons rfl (Sub.cons rfl (Sub.cons rfl (Sub.cons rfl (Sub.cons rfl (Sub.cons rfl (Sub.cons rfl (Sub.cons rfl (Sub.cons rfl (Sub.cons rfl (Sub.cons rfl (Sub.cons rfl (Sub.cons rfl (Sub.cons rfl (Sub.cons rfl (Sub.cons rfl (Sub.cons rfl (Sub.cons rfl (Sub.cons rfl (Sub.cons rfl (Sub.cons rfl (Sub.cons rfl (Sub.cons rfl (Sub.cons rfl (Sub.cons rfl (Sub.cons rfl (Sub.cons rfl (Sub.cons rfl (Sub.cons rfl (Sub.cons rfl (Sub.cons rfl (Sub.cons rfl (Sub.cons rfl (Sub.cons rfl (Sub.cons rfl (Sub.cons rfl (Sub.cons rfl (Sub.cons rfl (Sub.nil _))))))))))))))))))))))))))))))))))))))))))))) ?_
          refine TC.seq ?_
          refine TC.region ?_
          refine TL.val rfl rfl (Nat.le_of_ble_eq_true rfl) (Val.move rfl) ?_
          refine TL.val rfl rfl (Nat.le_of_ble_eq_true rfl) (Val.move rfl) ?_
          refine TL.val rfl rfl (Nat.le_of_ble_eq_true rfl) (Val.neqI rfl rfl) ?_
          refine TL.val rfl rfl (Nat.le_of_ble_eq_true rfl) (Val.move rfl) ?_
          refine TL.gen (fun g7 hg7 => ?_)
          refine TL.gval rfl rfl (Nat.le_of_ble_eq_true rfl) rfl (Nat.le_of_ble_eq_true rfl) rfl (fun hg => by subst hg; exact (Val.fieldAddr rfl fl26_1 sz3 rfl)) ?_
          refine TL.gval rfl rfl (Nat.le_of_ble_eq_true rfl) rfl (Nat.le_of_ble_eq_true rfl) rfl (fun hg => by subst hg; exact (Val.loadMem rfl ag3 memT rfl)) ?_
          refine TL.gval rfl rfl (Nat.le_of_ble_eq_true rfl) rfl (Nat.le_of_ble_eq_true rfl) rfl (fun hg => by subst hg; exact (Val.eqlI rfl rfl)) ?_
          first
            | refine TL.val rfl rfl (Nat.le_of_ble_eq_true rfl) (Val.pickAnd rfl rfl rfl) ?_
            | refine TL.val rfl rfl (Nat.le_of_ble_eq_true rfl) (Val.pickOr rfl rfl rfl) ?_
            | refine TL.val rfl rfl (Nat.le_of_ble_eq_true rfl) (Val.pick rfl rfl rfl) ?_
          refine TL.nil ?_
          refine AtX.then ?_
          refine TC.env (E' := [(1, _), (7, _), (8, _), (9, _), (10, _), (11, _), (12, _), (14, _), (16, _), (32, _), (33, _), (34, _), (35, _), (36, _), (37, _), (38, _), (39, _), (40, _), (41, _), (44, _), (45, _), (46, _), (47, _), (48, _), (49, _), (50, _), (51, _), (52, _), (53, _), (54, _), (55, _), (56, _), (57, _), (58, _), (59, _), (60, _), (61, _), (62, _), (63, _), (64, _), (65, _), (66, _), (67, _), (68, _), (69, _), (70, _), (71, _), (72, _), (73, _), (74, _), (75, _), (76, _)]) (Sub.cons rfl (Sub.cons rfl (Sub.cons rfl (Sub.cons rfl (Sub.cons rfl (Sub.cons rfl (Sub.cons rfl (Sub.cons rfl (Sub.cons rfl (Sub.cons rfl (Sub.cons rfl (Sub.cons rfl (Sub.cons rfl (Sub.cons rfl (Sub.cons rfl (Sub.cons rfl (Sub.cons rfl (Sub.cons rfl (Sub.cons rfl (Sub.cons rfl (Sub.cons rfl (Sub.cons rfl (Sub.cons rfl (Sub.cons rfl (Sub.cons rfl (Sub.cons rfl (Sub.cons rfl (Sub.cons rfl (Sub.cons rfl (Sub.cons rfl (Sub.cons rfl (Sub.cons rfl (Sub.cons rfl (Sub.cons rfl (Sub.cons rfl (Sub.cons rfl (Sub.cons rfl (Sub.cons rfl (Sub.cons rfl (Sub.cons rfl (Sub.cons rfl (Sub.cons rfl (Sub.cons rfl (Sub.cons rfl (Sub.cons rfl (Sub.cons rfl (Sub.cons rfl (Sub.cons rfl (Sub.cons rfl (Sub.cons rfl (Sub.cons rfl (Sub.cons rfl (Sub.nil _))))))))))))))))))))))))))))))))))))))))))))))))))))) ?_
          first | refine TC.condP rfl (fun c5 => ?_) (fun c5 => ?_) | refine TC.condN rfl (fun c5 => ?_) (fun c5 => ?_) | refine TC.condB rfl (fun c5 => ?_) (fun c5 => ?_) | refine TC.cond rfl (fun c5 => ?_) (fun c5 => ?_)
          · skip
            refine TC.env (E' := [(1, _), (7, _), (8, _), (9, _), (10, _), (11, _), (12, _), (14, _), (16, _), (32, _), (33, _), (34, _), (35, _), (36, _), (37, _), (38, _), (39, _), (40, _), (41, _), (44, _), (45, _), (46, _), (47, _), (48, _), (49, _), (50, _), (51, _), (52, _), (53, _), (54, _), (55, _), (56, _), (57, _), (58, _), (59, _), (60, _), (61, _), (62, _), (63, _), (64, _), (65, _), (66, _), (67, _), (68, _), (69, _), (70, _), (71, _), (72, _), (73, _), (74, _), (75, _), (76, _)]) (Sub.cons rfl (Sub.cons rfl (Sub.cons rfl (Sub.cons rfl (Sub.cons rfl (Sub.cons rfl (Sub.cons rfl (Sub.cons rfl (Sub.cons rfl (Sub.cons rfl (Sub.cons rfl (Sub.cons rfl (Sub.cons rfl (Sub.cons rfl (Sub.cons rfl (Sub.cons rfl (Sub.cons rfl (Sub.cons rfl (Sub.cons rfl (Sub.cons rfl (Sub.cons rfl (Sub.cons rfl (Sub.cons rfl (Sub.cons rfl (Sub.cons rfl (Sub.cons rfl (Sub.cons rfl (Sub.cons rfl (Sub.cons rfl (Sub.cons rfl (Sub.cons rfl (Sub.cons rfl (Sub.cons rfl (Sub.cons rfl (Sub.cons rfl (Sub.cons rfl (Sub.cons rfl (Sub.cons rfl (Sub.cons rfl (Sub.cons rfl (Sub.cons rfl (Sub.cons rfl (Sub.cons rfl (Sub.cons rfl (Sub.cons rfl (Sub.cons rfl (Sub.cons rfl (Sub.cons rfl (Sub.cons rfl (Sub.cons rfl (Sub.cons rfl (Sub.cons rfl (Sub.nil _))))))))))))))))))))))))))))))))))))))))))))))))))))) ?_
            have hik : i ≠ k ∨ cf.f = 0 := by clear hst hps hok hokw hx hsb hok1 hvx hr; grind
            refine TC.region ?_
            refine TL.val rfl rfl (Nat.le_of_ble_eq_true rfl) (Val.move rfl) ?_
            refine TL.val rfl rfl (Nat.le_of_ble_eq_true rfl) (Val.move rfl) ?_
            refine TL.does (some 79) rfl rfl rfl (Does.buildSlice sl36 sz2 ze2 (by decide) (by decide) rfl rfl rfl) ?_
            rintro _ _ ⟨b8, rfl, rfl⟩
            refine TL.does (some 80) rfl rfl rfl (Does.appendS (xs := (wt (vOf vs) k cf.f i).map (Value.int .i64)) (ys := [Value.int .i64 (vOf vs i)]) τ _ (ro_tail ro_dn) rfl rfl sl36 sz2 by2 ze2 rfl hokw (.inl ⟨_, _, rfl, ⟨2, us36⟩, .some (Rd.get (i := 0) rfl rfl)⟩) rfl (one_int _ _) (by omega) (by omega)) ?_
            rintro _ _ ⟨τ1, rfl, hokw1, rfl⟩
            refine TL.val rfl rfl (Nat.le_of_ble_eq_true rfl) (Val.assign rfl) ?_
            refine TL.nil ?_
            refine AtX.blk ?_
            refine AtX.then ?_
            refine TC.env (E' := [(1, _), (7, _), (8, _), (9, _), (10, _), (11, _), (12, _), (14, _), (16, _), (32, _), (33, _), (34, _), (35, _), (36, _), (37, _), (38, _), (39, _), (40, _), (41, _), (44, _), (45, _), (46, _), (47, _), (48, _), (49, _), (50, _), (51, _), (52, _), (53, _), (54, _), (55, _), (56, _), (57, _), (58, _), (59, _), (60, _), (61, _), (62, _), (63, _), (64, _), (65, _), (66, _), (67, _), (68, _), (69, _), (70, _), (71, _), (72, _), (73, _), (74, _), (75, _), (76, _), (77, _), (78, _), (79, _), (80, _)]) (Sub.cons rfl (Sub.cons rfl (Sub.cons rfl (Sub.cons rfl (Sub.cons rfl (Sub.cons rfl (Sub.cons rfl (Sub.cons rfl (Sub.cons rfl (Sub.cons rfl (Sub.cons rfl (Sub.cons rfl (Sub.cons rfl (Sub.cons rfl (Sub.cons rfl (Sub.cons rfl (Sub.cons rfl (Sub.cons rfl (Sub.cons rfl (Sub.cons rfl (Sub.cons rfl (Sub.cons rfl (Sub.cons rfl (Sub.cons rfl (Sub.cons rfl (Sub.cons rfl (Sub.cons rfl (Sub.cons rfl (Sub.cons rfl (Sub.cons rfl (Sub.cons rfl (Sub.cons rfl (Sub.cons rfl (Sub.cons rfl (Sub.cons rfl (Sub.cons rfl (Sub.cons rfl (Sub.cons rfl (Sub.cons rfl (Sub.cons rfl (Sub.cons rfl (Sub.cons rfl (Sub.cons rfl (Sub.cons rfl (Sub.cons rfl (Sub.cons rfl (Sub.cons rfl (Sub.cons rfl (Sub.cons rfl (Sub.cons rfl (Sub.cons rfl (Sub.cons rfl (Sub.cons rfl (Sub.cons rfl (Sub.cons rfl (Sub.cons rfl (Sub.nil _))))))))))))))))))))))))))))))))))))))))))))))))))))))))) ?_
            refine TC.region ?_
            refine TL.val rfl rfl (Nat.le_of_ble_eq_true rfl) (Val.move rfl) ?_
            first
              | refine TL.val rfl rfl (Nat.le_of_ble_eq_true rfl) (Val.add rfl rfl (w_i64 (by omega) (by omega))) ?_
              | refine TL.val rfl rfl (Nat.le_of_ble_eq_true rfl) (Val.add rfl rfl rfl) ?_
            refine TL.val rfl rfl (Nat.le_of_ble_eq_true rfl) (Val.assign rfl) ?_
            refine TL.nil ?_
            refine AtX.round (i := (i, ss, σ, τ)) (i + 1, ss.set i ⟨sb, i, 0, 1⟩, σ1, τ1) ?_ ?_ (Sub.cons rfl (Sub.cons rfl (Sub.cons rfl (Sub.cons (by dsimp only; rw [wt_t hik, List.length_append]; rfl) (Sub.cons rfl (Sub.cons rfl (Sub.nil _))))))) (fun w h => by dsimp only; rw [wt_t hik, List.map_append]; exact ro_up w h)
            · exact ⟨by omega, by omega, hst.next hlt.1, by dsimp only; rw [ptr_set hsb]; exact hps, hok1, by dsimp only; rw [wt_t hik, List.map_append, List.length_append]; exact hokw1⟩
            · show N - (i + 1) < N - i; omega
          · skip
            refine TC.env (E' := [(1, _), (7, _), (8, _), (9, _), (10, _), (11, _), (12, _), (14, _), (16, _), (32, _), (33, _), (34, _), (35, _), (36, _), (37, _), (38, _), (39, _), (40, _), (41, _), (44, _), (45, _), (46, _), (47, _), (48, _), (49, _), (50, _), (51, _), (52, _), (53, _), (54, _), (55, _), (56, _), (57, _), (58, _), (59, _), (60, _), (61, _), (62, _), (63, _), (64, _), (65, _), (66, _), (67, _), (68, _), (69, _), (70, _), (71, _), (72, _), (73, _), (74, _), (75, _), (76, _)]) (Sub.cons rfl (Sub.cons rfl (Sub.cons rfl (Sub.cons rfl (Sub.cons rfl (Sub.cons rfl (Sub.cons rfl (Sub.cons rfl (Sub.cons rfl (Sub.cons rfl (Sub.cons rfl (Sub.cons rfl (Sub.cons rfl (Sub.cons rfl (Sub.cons rfl (Sub.cons rfl (Sub.cons rfl (Sub.cons rfl (Sub.cons rfl (Sub.cons rfl (Sub.cons rfl (Sub.cons rfl (Sub.cons rfl (Sub.cons rfl (Sub.cons rfl (Sub.cons rfl (Sub.cons rfl (Sub.cons rfl (Sub.cons rfl (Sub.cons rfl (Sub.cons rfl (Sub.cons rfl (Sub.cons rfl (Sub.cons rfl (Sub.cons rfl (Sub.cons rfl (Sub.cons rfl (Sub.cons rfl (Sub.cons rfl (Sub.cons rfl (Sub.cons rfl (Sub.cons rfl (Sub.cons rfl (Sub.cons rfl (Sub.cons rfl (Sub.cons rfl (Sub.cons rfl (Sub.cons rfl (Sub.cons rfl (Sub.cons rfl (Sub.cons rfl (Sub.cons rfl (Sub.nil _))))))))))))))))))))))))))))))))))))))))))))))))))))) ?_
            refine TC.skip ?_
            refine AtX.blk ?_
            refine AtX.then ?_
            refine TC.env (E' := [(1, _), (7, _), (8, _), (9, _), (10, _), (11, _), (12, _), (14, _), (16, _), (32, _), (33, _), (34, _), (35, _), (36, _), (37, _), (38, _), (39, _), (40, _), (41, _), (44, _), (45, _), (46, _), (47, _), (48, _), (49, _), (50, _), (51, _), (52, _), (53, _), (54, _), (55, _), (56, _), (57, _), (58, _), (59, _), (60, _), (61, _), (62, _), (63, _), (64, _), (65, _), (66, _), (67, _), (68, _), (69, _), (70, _), (71, _), (72, _), (73, _), (74, _), (75, _), (76, _)]) (Sub.cons rfl (Sub.cons rfl (Sub.cons rfl (Sub.cons rfl (Sub.cons rfl (Sub.cons rfl (Sub.cons rfl (Sub.cons rfl (Sub.cons rfl (Sub.cons rfl (Sub.cons rfl (Sub.cons rfl (Sub.cons rfl (Sub.cons rfl (Sub.cons rfl (Sub.cons rfl (Sub.cons rfl (Sub.cons rfl (Sub.cons rfl (Sub.cons rfl (Sub.cons rfl (Sub.cons rfl (Sub.cons rfl (Sub.cons rfl (Sub.cons rfl (Sub.cons rfl (Sub.cons rfl (Sub.cons rfl (Sub.cons rfl (Sub.cons rfl (Sub.cons rfl (Sub.cons rfl (Sub.cons rfl (Sub.cons rfl (Sub.cons rfl (Sub.cons rfl (Sub.cons rfl (Sub.cons rfl (Sub.cons rfl (Sub.cons rfl (Sub.cons rfl (Sub.cons rfl (Sub.cons rfl (Sub.cons rfl (Sub.cons rfl (Sub.cons rfl (Sub.cons rfl (Sub.cons rfl (Sub.cons rfl (Sub.cons rfl (Sub.cons rfl (Sub.cons rfl (Sub.nil _))))))))))))))))))))))))))))))))))))))))))))))))))))) ?_
            refine TC.region ?_
            refine TL.val rfl rfl (Nat.le_of_ble_eq_true rfl) (Val.move rfl) ?_
            first
              | refine TL.val rfl rfl (Nat.le_of_ble_eq_true rfl) (Val.add rfl rfl (w_i64 (by omega) (by omega))) ?_
              | refine TL.val rfl rfl (Nat.le_of_ble_eq_true rfl) (Val.add rfl rfl rfl) ?_
            refine TL.val rfl rfl (Nat.le_of_ble_eq_true rfl) (Val.assign rfl) ?_
            refine TL.nil ?_
            have hik : ¬ (i ≠ k ∨ cf.f = 0) := by clear hst hps hok hokw hx hsb hok1 hvx hr; grind
            refine AtX.round (i := (i, ss, σ, τ)) (i + 1, ss.set i ⟨sb, i, 0, 1⟩, σ1, τ) ?_ ?_ (Sub.cons rfl (Sub.cons rfl (Sub.cons rfl (Sub.cons (by dsimp only; rw [wt_f hik]; rfl) (Sub.cons rfl (Sub.cons rfl (Sub.nil _))))))) (fun w h => by dsimp only; rw [wt_f hik]; exact h)
            · exact ⟨by omega, by omega, hst.next hlt.1, by dsimp only; rw [ptr_set hsb]; exact hps, hok1, by dsimp only; rw [wt_f hik]; exact hokw⟩
            · show N - (i + 1) < N - i; omega
    · skip
      refine TC.exit ?_
      refine AtX.seqX ?_
      refine AtX.seqX ?_
      refine AtX.hit ?_
      refine AtX.then ?_
      refine TC.env (E' := [(7, _), (8, _), (9, _), (10, _)]) (Sub.cons rfl (Sub.cons rfl (Sub.cons rfl (Sub.cons rfl (Sub.nil _))))) ?_
      refine TC.seq ?_
      refine TC.seq ?_
      refine TC.drawL [(b2, .cells #[.int .i64 (cf.n), .int .i64 (cf.f), .int .i64 (cf.m), .int .i64 (cf.quorum), .int .i64 (cf.fresh), .int .i64 (cf.grace), .int .i64 (cf.window), .int .i64 (cf.t0), .int .i64 (cf.t1), .int .i64 (cf.t2), .int .i64 (cf.t3), .int .i64 (cf.tol), .int .i64 (cf.min), .int .i64 (cf.max), .int .i64 (cf.calmup), .int .i64 (cf.calmdown), .int .i64 (cf.podsup), .int .i64 (cf.pctup), .int .i64 (cf.podsdown), .int .i64 (cf.pctdown), .int .i64 (cf.period), .int .i64 (cf.far), .int .i64 (cf.strikes), .int .i64 (cf.probe), .int .i64 (cf.sectors), .int .u64 (cf.seed)] 26 (0, 0))] mixed 8 ?_
      refine TA.tk 0 1 rfl rfl rfl (Val.move rfl) ?_ (hro := (by first | exact ro_bx | exact ro_bxs))
      refine TA.tk 1 3 rfl rfl rfl (Val.move rfl) ?_ (hro := (by first | exact ro_bx | exact ro_bxs))
      refine TA.tk 4 19 rfl rfl rfl (Val.fieldAddr rfl fl26_1 sz3 rfl) ?_ (hro := (by first | exact ro_bx | exact ro_bxs))
      refine TA.tk 5 51 rfl rfl rfl (Val.load 0 rfl ag3 rfl rfl) ?_ (hro := (by first | exact ro_bx | exact ro_bxs))
      refine TA.tk 6 115 rfl rfl rfl (Val.gtr rfl rfl) ?_ (hro := (by first | exact ro_bx | exact ro_bxs))
      refine TA.one 2 (by kernel_rfl) ?_
      refine TO.dz 119 (some 83) rfl rfl rfl rfl (Does.callF go14 rfl (Corrupt_any b 0 _ cf _ N cl bb σ i ((i : Nat) : Int) (List.replicate N false) _ (by rw [List.length_replicate]; rfl) (get_app1 (j := 0) rfl) (by simp; omega) (by simp) k (by omega) false (rep_get (by omega)))) ?_
      rintro _ _ ⟨r2, l2, rfl, hr2, rfl⟩
      rw [bads_0] at hr2
      obtain ⟨hl2, hr0, hlw⟩ := lst_2 (by omega) (by omega) hr2
      clear hr2
      refine ⟨(by first | exact ro_bx | exact ro_bxs), ?_⟩
      refine TA.tk 3 127 rfl rfl rfl (Val.eqlI rfl rfl) ?_ (hro := (by first | exact ro_bx | exact ro_bxs))
      refine TA.tk 7 255 rfl rfl rfl (Val.neqB rfl rfl un4) ?_ (hro := (by first | exact ro_bx | exact ro_bxs))
      refine TA.done (by kernel_rfl) ?_
      refine AtX.then ?_
      refine TC.env (E' := [(8, _), (9, _), (88, _)]) (Sub.cons rfl (Sub.cons rfl (Sub.cons rfl (Sub.nil _)))) ?_
      first | refine TC.condP rfl (fun c6 => ?_) (fun c6 => ?_) | refine TC.condN rfl (fun c6 => ?_) (fun c6 => ?_) | refine TC.condB rfl (fun c6 => ?_) (fun c6 => ?_) | refine TC.cond rfl (fun c6 => ?_) (fun c6 => ?_)
      · skip
        (exfalso; grind)
      · skip
        refine TC.env (E' := [(8, _), (9, _)]) (Sub.cons rfl (Sub.cons rfl (Sub.nil _))) ?_
        refine TC.skip ?_
        refine AtX.then ?_
        refine TC.env (E' := [(8, _), (9, _)]) (Sub.cons rfl (Sub.cons rfl (Sub.nil _))) ?_
        refine TC.seq ?_
        refine TC.heap (M' := (wob b cf (some ⟨bl, 0, none⟩) N cl bb N σ i ((i : Nat) : Int) :: (slH σ 100 ((kp (vOf vs) i).flatMap Smp.cs) ++ ((bb, row 4 (l2.map Value.bool)) :: (bl, row 57 (ps ++ spl)) :: (ss.map (sob cf.seed) ++ ((b2, .cells #[.int .i64 (cf.n), .int .i64 (cf.f), .int .i64 (cf.m), .int .i64 (cf.quorum), .int .i64 (cf.fresh), .int .i64 (cf.grace), .int .i64 (cf.window), .int .i64 (cf.t0), .int .i64 (cf.t1), .int .i64 (cf.t2), .int .i64 (cf.t3), .int .i64 (cf.tol), .int .i64 (cf.min), .int .i64 (cf.max), .int .i64 (cf.calmup), .int .i64 (cf.calmdown), .int .i64 (cf.podsup), .int .i64 (cf.pctup), .int .i64 (cf.podsdown), .int .i64 (cf.pctdown), .int .i64 (cf.period), .int .i64 (cf.far), .int .i64 (cf.strikes), .int .i64 (cf.probe), .int .i64 (cf.sectors), .int .u64 (cf.seed)] 26 (0, 0)) :: (slH τ 2 ((wt (vOf vs) k cf.f i).map (Value.int .i64)) ++ M))))))) ro_st ?_
        refine TC.region ?_
        refine TL.val rfl rfl (Nat.le_of_ble_eq_true rfl) (Val.move rfl) ?_
        refine TL.does (some 90) rfl rfl rfl (Does.callF go17 rfl (Honest_fn b 0 _ cf _ N cl bb σ i ((i : Nat) : Int) (kp (vOf vs) i) l2 (wob b cf (some ⟨bl, 0, none⟩) N cl bb N σ i ((i : Nat) : Int) :: (slH σ 100 ((kp (vOf vs) i).flatMap Smp.cs) ++ ((bb, row 4 (l2.map Value.bool)) :: (bl, row 57 (ps ++ spl)) :: (ss.map (sob cf.seed) ++ ((b2, .cells #[.int .i64 (cf.n), .int .i64 (cf.f), .int .i64 (cf.m), .int .i64 (cf.quorum), .int .i64 (cf.fresh), .int .i64 (cf.grace), .int .i64 (cf.window), .int .i64 (cf.t0), .int .i64 (cf.t1), .int .i64 (cf.t2), .int .i64 (cf.t3), .int .i64 (cf.tol), .int .i64 (cf.min), .int .i64 (cf.max), .int .i64 (cf.calmup), .int .i64 (cf.calmdown), .int .i64 (cf.podsup), .int .i64 (cf.pctup), .int .i64 (cf.podsdown), .int .i64 (cf.pctdown), .int .i64 (cf.period), .int .i64 (cf.far), .int .i64 (cf.strikes), .int .i64 (cf.probe), .int .i64 (cf.sectors), .int .u64 (cf.seed)] 26 (0, 0)) :: (slH τ 2 ((wt (vOf vs) k cf.f i).map (Value.int .i64)) ++ M)))))) (by rw [hl2]; rfl) (get_app1 (j := 0) rfl) hl2.symm (by omega) ((rdS_opt hok).cons _) (by simp) (by simp; omega) 0 3)) ?_
        rintro _ _ ⟨τ3, rfl, hok3, rfl⟩
        rw [hon_3 l2 (vOf vs) i k cf.f (by omega) hlw] at hok3 ⊢
        refine TL.val rfl rfl (Nat.le_of_ble_eq_true rfl) (Val.assign rfl) ?_
        refine TL.nil ?_
        refine AtX.then ?_
        refine TC.env (E' := [(8, _), (9, _), (17, _)]) (Sub.cons rfl (Sub.cons rfl (Sub.cons rfl (Sub.nil _)))) ?_
        refine TC.seq ?_
        refine TC.seq ?_
        refine TC.region ?_
        refine TL.val rfl rfl (Nat.le_of_ble_eq_true rfl) (Val.move rfl) ?_
        refine TL.val rfl rfl (Nat.le_of_ble_eq_true rfl) (Val.lenSl rfl rfl sl36) ?_
        refine TL.val rfl rfl (Nat.le_of_ble_eq_true rfl) (Val.move rfl) ?_
        refine TL.val rfl rfl (Nat.le_of_ble_eq_true rfl) (Val.lenSl rfl rfl sl36) ?_
        refine TL.val rfl rfl (Nat.le_of_ble_eq_true rfl) (Val.neqI rfl rfl) ?_
        refine TL.val rfl rfl (Nat.le_of_ble_eq_true rfl) (Val.move rfl) ?_
        refine TL.gen (fun g11 hg11 => ?_)
        refine TL.gval rfl rfl (Nat.le_of_ble_eq_true rfl) rfl (Nat.le_of_ble_eq_true rfl) rfl (fun hg => by subst hg; exact (Val.move rfl)) ?_
        cases g11 with
        | false =>
          refine TL.doesYes (some 98) rfl rfl rfl (Nat.le_of_ble_eq_true rfl) rfl rfl (Does.callF go17 rfl (Honest_fn b _ _ cf _ N cl bb σ i ((i : Nat) : Int) (kp (vOf vs) i) l2 _ (get_app (j := 0) (by rw [hl2]; rfl)) (get_app (get_app1 (j := 0) rfl)) hl2.symm (by omega) (by repeat (first | exact rdS_opt hok | apply RdS.cons | apply RdS.app)) (by simp) (by simp; omega) 0 4)) ?_
          rintro _ _ ⟨τ4, rfl, hok4, rfl⟩
          rw [hon_4] at hok4 ⊢
          refine TL.valYes rfl rfl (Nat.le_of_ble_eq_true rfl) rfl (Nat.le_of_ble_eq_true rfl) rfl (Val.lenSl rfl rfl sl36) ?_
          refine TL.valYes rfl rfl (Nat.le_of_ble_eq_true rfl) rfl (Nat.le_of_ble_eq_true rfl) rfl (Val.neqI rfl rfl) ?_
          first
            | refine TL.val rfl rfl (Nat.le_of_ble_eq_true rfl) (Val.pickAnd rfl rfl rfl) ?_
            | refine TL.val rfl rfl (Nat.le_of_ble_eq_true rfl) (Val.pickOr rfl rfl rfl) ?_
            | refine TL.val rfl rfl (Nat.le_of_ble_eq_true rfl) (Val.pick rfl rfl rfl) ?_
          refine TL.nil ?_
          refine AtX.then ?_
          refine TC.env (E' := [(9, _), (17, _), (101, _)]) (Sub.cons rfl (Sub.cons rfl (Sub.cons rfl (Sub.nil _)))) ?_
          first | refine TC.condP rfl (fun c7 => ?_) (fun c7 => ?_) | refine TC.condN rfl (fun c7 => ?_) (fun c7 => ?_) | refine TC.condB rfl (fun c7 => ?_) (fun c7 => ?_) | refine TC.cond rfl (fun c7 => ?_) (fun c7 => ?_)
          · skip
            (exfalso; subst_vars; simp at c7)
          · skip
            refine TC.env (E' := [(9, _), (17, _)]) (Sub.cons rfl (Sub.cons rfl (Sub.nil _))) ?_
            refine TC.skip ?_
            refine AtX.then ?_
            refine TC.env (E' := [(9, _), (17, _)]) (Sub.cons rfl (Sub.cons rfl (Sub.nil _))) ?_
            refine TC.seq ?_
            refine TC.seq ?_
            refine TC.region ?_
            refine TL.val rfl rfl (Nat.le_of_ble_eq_true rfl) (Val.assign rfl) ?_
            refine TL.nil ?_
            refine AtX.then ?_
            refine TC.env (E' := [(9, _), (17, _), (18, _)]) (Sub.cons rfl (Sub.cons rfl (Sub.cons rfl (Sub.nil _)))) ?_
            refine TC.block ?_
            refine TC.loop (ι := Nat) (fun j => [(9, .slice (slA τ) (wt (vOf vs) k cf.f i).length (slC τ)), (17, .slice (slA τ3) (wt (vOf vs) k cf.f i).length (slC τ3)), (18, .int .i64 ((j : Nat) : Int))]) (fun _ => (slH τ4 2 ((([] : List Int)).map (Value.int .i64)) ++ (slH τ3 2 ((wt (vOf vs) k cf.f i).map (Value.int .i64)) ++ (wob b cf (some ⟨bl, 0, none⟩) N cl bb N σ i ((i : Nat) : Int) :: (slH σ 100 ((kp (vOf vs) i).flatMap Smp.cs) ++ ((bb, row 4 (l2.map Value.bool)) :: (bl, row 57 (ps ++ spl)) :: (ss.map (sob cf.seed) ++ ((b2, .cells #[.int .i64 (cf.n), .int .i64 (cf.f), .int .i64 (cf.m), .int .i64 (cf.quorum), .int .i64 (cf.fresh), .int .i64 (cf.grace), .int .i64 (cf.window), .int .i64 (cf.t0), .int .i64 (cf.t1), .int .i64 (cf.t2), .int .i64 (cf.t3), .int .i64 (cf.tol), .int .i64 (cf.min), .int .i64 (cf.max), .int .i64 (cf.calmup), .int .i64 (cf.calmdown), .int .i64 (cf.podsup), .int .i64 (cf.pctup), .int .i64 (cf.podsdown), .int .i64 (cf.pctdown), .int .i64 (cf.period), .int .i64 (cf.far), .int .i64 (cf.strikes), .int .i64 (cf.probe), .int .i64 (cf.sectors), .int .u64 (cf.seed)] 26 (0, 0)) :: (slH τ 2 ((wt (vOf vs) k cf.f i).map (Value.int .i64)) ++ M))))))))) (fun j => j ≤ (wt (vOf vs) k cf.f i).length) (fun j => (wt (vOf vs) k cf.f i).length - j) 0 ?_ (Sub.cons rfl (Sub.cons rfl (Sub.cons rfl (Sub.nil _)))) (fun _ h => h) ?_
            · exact Nat.zero_le _
            intro j hj
            refine TC.seq ?_
            refine TC.seq ?_
            refine TC.region ?_
            refine TL.val rfl rfl (Nat.le_of_ble_eq_true rfl) (Val.move rfl) ?_
            refine TL.val rfl rfl (Nat.le_of_ble_eq_true rfl) (Val.move rfl) ?_
            refine TL.val rfl rfl (Nat.le_of_ble_eq_true rfl) (Val.lenSl rfl rfl sl36) ?_
            refine TL.val rfl rfl (Nat.le_of_ble_eq_true rfl) (Val.lss rfl rfl) ?_
            refine TL.nil ?_
            refine AtX.then ?_
            first | refine TC.condP rfl (fun c8 => ?_) (fun c8 => ?_) | refine TC.condN rfl (fun c8 => ?_) (fun c8 => ?_) | refine TC.condB rfl (fun c8 => ?_) (fun c8 => ?_) | refine TC.cond rfl (fun c8 => ?_) (fun c8 => ?_)
            · skip
              refine TC.skip ?_
              refine AtX.then ?_
              refine TC.seq ?_
              refine TC.block ?_
              refine TC.seq ?_
              have hwl := wt_le (vOf vs) k cf.f i
              have hltj : j < (wt (vOf vs) k cf.f i).length := by omega
              obtain ⟨x, hx⟩ : ∃ x, (wt (vOf vs) k cf.f i)[j]? = some x := ⟨_, List.getElem?_eq_getElem hltj⟩
              obtain ⟨b3, o3, h3e, hR3⟩ : ∃ b3 o3 : Nat, slA τ3 = some ⟨b3, o3, none⟩ ∧ Rd (slH τ4 2 ((([] : List Int)).map (Value.int .i64)) ++ (slH τ3 2 ((wt (vOf vs) k cf.f i).map (Value.int .i64)) ++ (wob b cf (some ⟨bl, 0, none⟩) N cl bb N σ i ((i : Nat) : Int) :: (slH σ 100 ((kp (vOf vs) i).flatMap Smp.cs) ++ ((bb, row 4 (l2.map Value.bool)) :: (bl, row 57 (ps ++ spl)) :: (ss.map (sob cf.seed) ++ ((b2, .cells #[.int .i64 (cf.n), .int .i64 (cf.f), .int .i64 (cf.m), .int .i64 (cf.quorum), .int .i64 (cf.fresh), .int .i64 (cf.grace), .int .i64 (cf.window), .int .i64 (cf.t0), .int .i64 (cf.t1), .int .i64 (cf.t2), .int .i64 (cf.t3), .int .i64 (cf.tol), .int .i64 (cf.min), .int .i64 (cf.max), .int .i64 (cf.calmup), .int .i64 (cf.calmdown), .int .i64 (cf.podsup), .int .i64 (cf.pctup), .int .i64 (cf.podsdown), .int .i64 (cf.pctdown), .int .i64 (cf.period), .int .i64 (cf.far), .int .i64 (cf.strikes), .int .i64 (cf.probe), .int .i64 (cf.sectors), .int .u64 (cf.seed)] 26 (0, 0)) :: (slH τ 2 ((wt (vOf vs) k cf.f i).map (Value.int .i64)) ++ M)))))))) ⟨b3, o3, none⟩ ((wt (vOf vs) k cf.f i).map (Value.int .i64)) := RdS.get (by repeat (first | exact rdS_opt hok3 | apply RdS.cons | apply RdS.app)) (by simp; omega)
              obtain ⟨bW, oW, hWe, hRW⟩ : ∃ bW oW : Nat, slA τ = some ⟨bW, oW, none⟩ ∧ Rd (slH τ4 2 ((([] : List Int)).map (Value.int .i64)) ++ (slH τ3 2 ((wt (vOf vs) k cf.f i).map (Value.int .i64)) ++ (wob b cf (some ⟨bl, 0, none⟩) N cl bb N σ i ((i : Nat) : Int) :: (slH σ 100 ((kp (vOf vs) i).flatMap Smp.cs) ++ ((bb, row 4 (l2.map Value.bool)) :: (bl, row 57 (ps ++ spl)) :: (ss.map (sob cf.seed) ++ ((b2, .cells #[.int .i64 (cf.n), .int .i64 (cf.f), .int .i64 (cf.m), .int .i64 (cf.quorum), .int .i64 (cf.fresh), .int .i64 (cf.grace), .int .i64 (cf.window), .int .i64 (cf.t0), .int .i64 (cf.t1), .int .i64 (cf.t2), .int .i64 (cf.t3), .int .i64 (cf.tol), .int .i64 (cf.min), .int .i64 (cf.max), .int .i64 (cf.calmup), .int .i64 (cf.calmdown), .int .i64 (cf.podsup), .int .i64 (cf.pctup), .int .i64 (cf.podsdown), .int .i64 (cf.pctdown), .int .i64 (cf.period), .int .i64 (cf.far), .int .i64 (cf.strikes), .int .i64 (cf.probe), .int .i64 (cf.sectors), .int .u64 (cf.seed)] 26 (0, 0)) :: (slH τ 2 ((wt (vOf vs) k cf.f i).map (Value.int .i64)) ++ M)))))))) ⟨bW, oW, none⟩ ((wt (vOf vs) k cf.f i).map (Value.int .i64)) := RdS.get (by repeat (first | exact rdS_opt hokw | apply RdS.cons | apply RdS.app)) (by simp; omega)
              rw [h3e, hWe]
              refine TC.drawLM mixed 9 ?_
              refine TA.tk 0 1 rfl rfl rfl (Val.move rfl) ?_
              refine TA.tk 1 3 rfl rfl rfl (Val.move rfl) ?_
              refine TA.tk 2 7 rfl rfl rfl (Val.indexAddr (i := j) (r := o3 + j) rfl rfl sl36 sz2 rfl hltj (by omega)) ?_
              refine TA.tk 3 15 rfl rfl rfl (Val.loadRd (o := o3) (j := j) (v := .int .i64 x) rfl ag2 hR3 rfl (map_get hx)) ?_
              refine TA.tk 4 31 rfl rfl rfl (Val.move rfl) ?_
              refine TA.tk 5 63 rfl rfl rfl (Val.move rfl) ?_
              refine TA.tk 6 127 rfl rfl rfl (Val.indexAddr (i := j) (r := oW + j) rfl rfl sl36 sz2 rfl hltj (by omega)) ?_
              refine TA.tk 7 255 rfl rfl rfl (Val.loadRd (o := oW) (j := j) (v := .int .i64 x) rfl ag2 hRW rfl (map_get hx)) ?_
              refine TA.tk 8 511 rfl rfl rfl (Val.neqI rfl rfl) ?_
              refine TA.done (by kernel_rfl) ?_
              refine AtX.then ?_
              first | refine TC.condP rfl (fun c9 => ?_) (fun c9 => ?_) | refine TC.condN rfl (fun c9 => ?_) (fun c9 => ?_) | refine TC.condB rfl (fun c9 => ?_) (fun c9 => ?_) | refine TC.cond rfl (fun c9 => ?_) (fun c9 => ?_)
              · skip
                exact absurd rfl c9
              · skip
                refine TC.skip ?_
                refine AtX.blk ?_
                refine AtX.then ?_
                refine TC.region ?_
                refine TL.val rfl rfl (Nat.le_of_ble_eq_true rfl) (Val.move rfl) ?_
                first
                  | refine TL.val rfl rfl (Nat.le_of_ble_eq_true rfl) (Val.add rfl rfl (w_i64 (by omega) (by omega))) ?_
                  | refine TL.val rfl rfl (Nat.le_of_ble_eq_true rfl) (Val.add rfl rfl rfl) ?_
                refine TL.val rfl rfl (Nat.le_of_ble_eq_true rfl) (Val.assign rfl) ?_
                refine TL.nil ?_
                refine AtX.round (j + 1) ?_ ?_ (Sub.cons rfl (Sub.cons rfl (Sub.cons rfl (Sub.nil _)))) (fun _ h => h)
                · omega
                · omega
            · skip
              refine TC.exit ?_
              refine AtX.seqX ?_
              refine AtX.seqX ?_
              refine AtX.hit ?_
              refine AtX.then ?_
              refine TC.env (E' := []) (Sub.nil _) ?_
              refine TC.seq ?_
              refine TC.region ?_
              refine TL.does (some 117) rfl rfl rfl (Does.callF go13 rfl (told23_fn _)) ?_
              rintro _ _ ⟨rfl, rfl⟩
              refine TL.val rfl rfl (Nat.le_of_ble_eq_true rfl) (Val.assign rfl) ?_
              refine TL.nil ?_
              refine AtX.then ?_
              refine TC.env (E' := [(6, _)]) (Sub.cons rfl (Sub.nil _)) ?_
              refine TC.ret1 (fn := Try.f4) (fun _ _ h => h) rfl (RV.tmp rfl) (M' := M) (by repeat (first | exact ro_refl | exact ro_pre | refine ro_tail ?_ | refine ro_app ?_)) ?_
              exact ⟨rfl, rfl⟩
        | true =>
          (exfalso; simp at hg11)

end Go.Proofs.Ytphoapajlcaoeaa
