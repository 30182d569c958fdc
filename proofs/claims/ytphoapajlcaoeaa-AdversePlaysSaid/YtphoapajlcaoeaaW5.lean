/- Texts put together: A66, A67. -/
import Derived.Test.YtphoapajlcaoeaaW4
import Derived.Test.YtphoapajlcaoeaaG2
/- walks -/
set_option linter.unusedVariables false
set_option linter.unusedSimpArgs false
set_option maxRecDepth 100000
set_option maxHeartbeats 4000000
namespace Go.Proofs.Ytphoapajlcaoeaa
open Go Go.X
structure Op7 where
  kind : Int
  who : Int
  m : Int
  g : Int
  t : Int
  v : Int
  s : Int
abbrev Op7.cs (o : Op7) : List Value := [.int .i64 o.kind, .int .i64 o.who, .int .i64 o.m, .int .i64 o.g, .int .i64 o.t, .int .i64 o.v, .int .i64 o.s]
theorem Op7.cs_len (o : Op7) : o.cs.length = 7 := rfl
structure JB where
  cd : Int
  ot : List UInt8
  env : Hp
  A : Option Addr
  cap : Nat
  s2 : WS
  σ : Sl
  τ : Sl
theorem WH_sub {K : WK} {s : WS} {σ τ : Sl} {T : Hp} {x : Nat × Obj} (h : x ∈ T) : x ∈ WH K s σ τ T := by
  unfold WH WH0
  simp only [List.mem_cons, List.mem_append]
  simp [h]
theorem WH_bx {K : WK} {s : WS} {σ τ : Sl} {T : Hp} : (K.bx, .cells K.c.cs 26 (0, 0)) ∈ WH K s σ τ T := by
  unfold WH WH0
  exact List.mem_cons_of_mem _ (List.mem_append_right _ (List.mem_cons_of_mem _ (List.mem_cons_self ..)))
theorem WH_kσ {K : WK} {s : WS} {σ τ : Sl} {T : Hp} (h : slOk σ 4 s.kept.length (kc s.kept)) : RdS (WH K s σ τ T) (slA σ) (kc s.kept) := (rdS_opt h).cons _
theorem WH_kτ {K : WK} {s : WS} {σ τ : Sl} {T : Hp} (hk : s.kept2 = s.kept) (h : slOk τ 4 s.kept.length (kc s.kept)) : RdS (WH K s σ τ T) (slA τ) (kc s.kept) := by
  rw [← hk] at h ⊢
  exact (RdS.cons _ (RdS.app _ (RdS.cons _ (RdS.cons _ (RdS.cons _ (RdS.cons _ (RdS.cons _ (RdS.cons _ (RdS.app _ (RdS.app _ (rdS_opt h)))))))))))
theorem WH_rw {K : WK} {s : WS} {σ τ : Sl} {T : Hp} (hk : s.kept2 = s.kept) : (WH K s σ τ T)[(slH σ 100 (kc s.kept)).length + 0 + 1]? = some (rwo K.rb K.c (some ⟨K.rl, 0, none⟩) K.N K.rcl K.rbb K.N τ s.kept.length) := by
  have h := WH_at (K := K) (s := s) (σ := σ) (τ := τ) (T := T) (j := 0) (x := rwo K.rb K.c (some ⟨K.rl, 0, none⟩) K.N K.rcl K.rbb K.N τ s.kept2.length) rfl
  rwa [hk] at h
theorem own_in {z : World} {K : WK} {s : WS} {σ τ : Sl} {x : Nat × Obj} {T : Hp} : ∀ w, Own z w (x :: WH K s σ τ T) → Own z w (WH K s σ τ (x :: T)) := fun w h => by
  simp only [WH, WH0] at h ⊢
  exact h.ac
theorem own_sub {z : World} {K : WK} {s : WS} {σ τ : Sl} {L T : Hp} : ∀ w, Own z w (WH K s σ τ (L ++ T)) → Own z w (WH K s σ τ T) := fun w h => by
  have h2 : Own z w (L ++ WH K s σ τ T) := by
    simp only [WH, WH0] at h ⊢
    exact h.ac
  exact h2.sublist (List.sublist_append_right _ _)
theorem own_fin0 {z : World} {K : WK} {s : WS} {σ τ : Sl} {T : Hp} : ∀ w, Own z w (WH K s σ τ T) → Own z w T := fun w h => by
  simp only [WH, WH0] at h
  revert w
  exact ro_s
theorem own_fin {z : World} {K : WK} {s : WS} {σ τ : Sl} {L T : Hp} : ∀ w, Own z w (L ++ WH K s σ τ T) → Own z w T := fun w h => own_fin0 w (h.sublist (List.sublist_append_right _ _))
theorem own_out5 {z : World} {K : WK} {s : WS} {σ τ : Sl} {x : Nat × Obj} {L1 L2 L3 L4 L5 T : Hp} : ∀ w, Own z w (L1 ++ (L2 ++ (L3 ++ (L4 ++ (L5 ++ WH K s σ τ (x :: T)))))) → Own z w (WH K s σ τ T) := fun w h => by
  have h2 : Own z w (WH K s σ τ (x :: T)) := h.sublist (by
    repeat (first | exact List.Sublist.refl _ | refine List.sublist_append_of_sublist_right ?_))
  exact own_sub (L := [x]) w h2
theorem ro_mem {z : World} {M : Hp} {x : Nat × Obj} (hx : x ∈ M) : ∀ w, Own z w M → Own z w [x] := fun w h => ⟨h.os, h.tape, h.output, by simp, fun b o hm => by
  rw [List.mem_singleton] at hm
  exact h.mem b o (hm ▸ hx)⟩
theorem own_init {z : World} {b bl cl bb rb rl rcl rbb bx N : Nat} {spl rspl : List Value} {ss rs : List Sr} {cf : Cf} {M : Hp} : ∀ w, Own z w (rwo rb cf (some ⟨rl, 0, none⟩) N rcl rbb N none 0 :: (rbb, row 4 ((List.replicate N false).map Value.bool)) :: (rl, row 106 (rs.map Sr.ptr ++ rspl)) :: (rs.map (rsob cf.seed) ++ (wob b cf (some ⟨bl, 0, none⟩) N cl bb N none 0 0 :: (bb, row 4 ((List.replicate N false).map Value.bool)) :: (bl, row 57 (ss.map Sr.ptr ++ spl)) :: (ss.map (sob cf.seed) ++ ((bx, .cells cf.cs 26 (0, 0)) :: M))))) →
    Own z w (WH ⟨b, bl, cl, bb, rb, rl, rcl, rbb, bx, spl, rspl, ss.map Sr.ptr, rs.map Sr.ptr, cf, N⟩ ⟨0, ss, rs, List.replicate N false, List.replicate N false, [], []⟩ none none M) := fun w h => by
  show Own z w (wob b cf (some ⟨bl, 0, none⟩) N cl bb N none 0 0 :: rwo rb cf (some ⟨rl, 0, none⟩) N rcl rbb N none 0 :: (bx, .cells cf.cs 26 (0, 0)) :: (bb, row 4 ((List.replicate N false).map Value.bool)) :: (bl, row 57 (ss.map Sr.ptr ++ spl)) :: (rbb, row 4 ((List.replicate N false).map Value.bool)) :: (rl, row 106 (rs.map Sr.ptr ++ rspl)) :: (ss.map (sob cf.seed) ++ (rs.map (rsob cf.seed) ++ M)))
  exact h.ac
theorem inv0 {b bl cl bb rb rl rcl rbb bx N : Nat} {spl rspl : List Value} {ss rs : List Sr} {cf : Cf} (hss : ss.length = N) (hrs : rs.length = N) (hw : ∀ (k : Nat) (r : Sr), ss[k]? = some r → r.w = k ∧ r.g = 0 ∧ r.q = 0) (hw2 : ∀ (k : Nat) (r : Sr), rs[k]? = some r → r.w = k ∧ r.g = 0 ∧ r.q = 0) (hf : 0 ≤ cf.f) :
    Inv ⟨b, bl, cl, bb, rb, rl, rcl, rbb, bx, spl, rspl, ss.map Sr.ptr, rs.map Sr.ptr, cf, N⟩ 0 ⟨0, ss, rs, List.replicate N false, List.replicate N false, [], []⟩ := by
  refine ⟨hss, hrs, fun k r hr => ?_, rfl, rfl, by simp, rfl, by rw [bads_0]; exact hf, rfl, Nat.le_refl _, ⟨Int.le_refl _, Int.le_refl _⟩⟩
  obtain ⟨h1, h2, h3⟩ := hw k r hr
  have hk := (List.getElem?_eq_some_iff.1 hr).1
  have hk : k < ss.length := hk
  obtain ⟨q, hq⟩ : ∃ q, rs[k]? = some q := ⟨_, List.getElem?_eq_getElem (by omega)⟩
  obtain ⟨e1, e2, e3⟩ := hw2 k q hq
  refine ⟨⟨q.b, ?_⟩, h1, by omega, by simp [h2], by omega, by simp [h3]⟩
  show rs[k]? = _
  rw [hq, h1, h2, h3, ← e1, ← e2]
  cases q
  simp_all
/-- quorumite/quorumitelaw23.AdversePlays -/
theorem AdversePlays_fn (zs : List Int) (ops : List Op7) (A B : Option Addr) (n cA n2 cB : Nat) (M : Hp) (hA : RdS M A (zs.map (Value.int .i64))) (hB : RdS M B (ops.flatMap Op7.cs)) (hn : n = zs.length) (hn2 : n2 = ops.length) : FnC Try.prog 5 #[.slice A n cA, .slice B n2 cB] M (fun v M' => v = .bool true ∧ M = M') := by
  subst hn2
  refine FnC.intro Try.func5 rfl 230 rfl (by simp) (fun z => ?_)
  refine TC.env (E' := [(0, _), (1, _)]) (Sub.cons rfl (Sub.cons rfl (Sub.nil _))) ?_
  refine TC.sr ?_
  refine TL.v (Val.assign rfl) ?_
  refine TL.nt ?_
  refine TC.sr ?_
  refine TL.v (Val.move rfl) ?_
  refine TL.d (Does.callF go11 rfl (Fit_fn zs A n cA _ hA hn)) ?_
  rintro _ _ ⟨cf, rfl, hcf, rfl⟩
  have hn16 := hcf.n
  obtain ⟨N, hN⟩ : ∃ N : Nat, cf.n = N := ⟨cf.n.toNat, by omega⟩
  refine TL.d (Does.alloc ze26 rfl) ?_
  rintro _ _ ⟨b2, rfl, rfl⟩
  refine TL.d (Does.storeR (ys' := [.int .i64 (cf.n), .int .i64 (cf.f), .int .i64 (cf.m), .int .i64 (cf.quorum), .int .i64 (cf.fresh), .int .i64 (cf.grace), .int .i64 (cf.window), .int .i64 (cf.t0), .int .i64 (cf.t1), .int .i64 (cf.t2), .int .i64 (cf.t3), .int .i64 (cf.tol), .int .i64 (cf.min), .int .i64 (cf.max), .int .i64 (cf.calmup), .int .i64 (cf.calmdown), .int .i64 (cf.podsup), .int .i64 (cf.pctup), .int .i64 (cf.podsdown), .int .i64 (cf.pctdown), .int .i64 (cf.period), .int .i64 (cf.far), .int .i64 (cf.strikes), .int .i64 (cf.probe), .int .i64 (cf.sectors), .int .u64 (cf.seed)]) 0 rfl rfl rfl sz26 rfl rfl (by exact Nat.le_of_ble_eq_true rfl) rfl) ?_
  rintro _ _ ⟨rfl, rfl⟩
  refine TL.nt ?_
  refine TC.seq ?_
  refine TC.drawL ((b2, .cells #[.int .i64 (cf.n), .int .i64 (cf.f), .int .i64 (cf.m), .int .i64 (cf.quorum), .int .i64 (cf.fresh), .int .i64 (cf.grace), .int .i64 (cf.window), .int .i64 (cf.t0), .int .i64 (cf.t1), .int .i64 (cf.t2), .int .i64 (cf.t3), .int .i64 (cf.tol), .int .i64 (cf.min), .int .i64 (cf.max), .int .i64 (cf.calmup), .int .i64 (cf.calmdown), .int .i64 (cf.podsup), .int .i64 (cf.pctup), .int .i64 (cf.podsdown), .int .i64 (cf.pctdown), .int .i64 (cf.period), .int .i64 (cf.far), .int .i64 (cf.strikes), .int .i64 (cf.probe), .int .i64 (cf.sectors), .int .u64 (cf.seed)] 26 (0, 0)) :: M) mixed 6 ?_
  refine TA.tk 0 1 rfl rfl rfl (Val.loadAgg (vs := [.int .i64 (cf.n), .int .i64 (cf.f), .int .i64 (cf.m), .int .i64 (cf.quorum), .int .i64 (cf.fresh), .int .i64 (cf.grace), .int .i64 (cf.window), .int .i64 (cf.t0), .int .i64 (cf.t1), .int .i64 (cf.t2), .int .i64 (cf.t3), .int .i64 (cf.tol), .int .i64 (cf.min), .int .i64 (cf.max), .int .i64 (cf.calmup), .int .i64 (cf.calmdown), .int .i64 (cf.podsup), .int .i64 (cf.pctup), .int .i64 (cf.podsdown), .int .i64 (cf.pctdown), .int .i64 (cf.period), .int .i64 (cf.far), .int .i64 (cf.strikes), .int .i64 (cf.probe), .int .i64 (cf.sectors), .int .u64 (cf.seed)]) 0 rfl ag26 sz26 rfl rfl rfl) ?_ (hro := ro_s)
  refine TA.tk 2 5 rfl rfl rfl (Val.loadAgg (vs := [.int .i64 (cf.n), .int .i64 (cf.f), .int .i64 (cf.m), .int .i64 (cf.quorum), .int .i64 (cf.fresh), .int .i64 (cf.grace), .int .i64 (cf.window), .int .i64 (cf.t0), .int .i64 (cf.t1), .int .i64 (cf.t2), .int .i64 (cf.t3), .int .i64 (cf.tol), .int .i64 (cf.min), .int .i64 (cf.max), .int .i64 (cf.calmup), .int .i64 (cf.calmdown), .int .i64 (cf.podsup), .int .i64 (cf.pctup), .int .i64 (cf.podsdown), .int .i64 (cf.pctdown), .int .i64 (cf.period), .int .i64 (cf.far), .int .i64 (cf.strikes), .int .i64 (cf.probe), .int .i64 (cf.sectors), .int .u64 (cf.seed)]) 0 rfl ag26 sz26 rfl rfl rfl) ?_ (hro := ro_s)
  refine TA.one 1 (by kernel_rfl) ?_
  refine TO.dz 7 (some 18) rfl rfl rfl rfl (Does.callF go12 rfl (wNew_fn cf N _ hcf hN)) ?_
  rintro _ _ ⟨b, bl, cl, spl, bb, ss, rfl, hss, hsw, rfl⟩
  refine ⟨ro_s, ?_⟩
  refine TA.one 3 (by kernel_rfl) ?_
  refine TO.dz 15 (some 20) rfl rfl rfl rfl (Does.callF go18 rfl (refNW_fn cf N _ hcf hN)) ?_
  rintro _ _ ⟨rb, rl, rcl, rspl, rbb, rs, rfl, hrs, hrw, rfl⟩
  refine ⟨ro_s, ?_⟩
  refine TA.tk 4 31 rfl rfl rfl (Val.assign rfl) ?_ (hro := ro_s)
  refine TA.tk 5 63 rfl rfl rfl (Val.assign rfl) ?_ (hro := ro_s)
  refine TA.done (by kernel_rfl) ?_
  refine AtX.then ?_
  refine TC.seq ?_
  refine TC.seq ?_
  obtain ⟨K, hKe⟩ : ∃ K : WK, K = ⟨b, bl, cl, bb, rb, rl, rcl, rbb, b2, spl, rspl, ss.map Sr.ptr, rs.map Sr.ptr, cf, N⟩ := ⟨_, rfl⟩
  have hK : OKK K := by subst hKe; exact ⟨hcf, hN, by simp [hss], by simp [hrs]⟩
  have hKN : K.N = N := by rw [hKe]
  have hKb : K.b = b := by rw [hKe]
  have hKrb : K.rb = rb := by rw [hKe]
  have hKbx : K.bx = b2 := by rw [hKe]
  have hKc : K.c = cf := by rw [hKe]
  have hI0 : Inv K 0 ⟨0, ss, rs, List.replicate N false, List.replicate N false, [], []⟩ := by subst hKe; exact inv0 hss hrs hsw hrw hcf.f.1
  refine TC.heap (M' := WH K ⟨0, ss, rs, List.replicate N false, List.replicate N false, [], []⟩ none none M) (fun w h => by subst hKe; exact own_init w h) ?_
  rw [← hKb, ← hKrb, ← hKbx]
  refine TC.region ?_
  refine TL.v (Val.move rfl) ?_
  refine TL.v (Val.eqlNil rfl rfl pt28) ?_
  refine TL.v (Val.move rfl) ?_
  refine TL.vy (Val.move rfl) ?_
  refine TL.vy (Val.eqlNil rfl rfl pt43) ?_
  refine TL.v (Val.pickOr rfl rfl rfl) ?_
  refine TL.v (Val.move rfl) ?_
  refine TL.vy (Val.move rfl) ?_
  refine TL.vy (Val.lenSl rfl rfl sl42) ?_
  refine TL.vy (Val.gtr rfl rfl) ?_
  refine TL.v (Val.pickOr rfl rfl rfl) ?_
  refine TL.nt ?_
  refine TC.en (E' := [(1, _), (4, _), (5, _), (6, _), (7, _), (31, _)]) ?_
  refine TC.condP rfl (fun c1 => ?_) (fun c1 => ?_)
  · skip
    refine TC.sr ?_
    refine TL.d (Does.callF go13 rfl (told23_fn _)) ?_
    rintro _ _ ⟨rfl, rfl⟩
    refine TL.v (Val.move rfl) ?_
    refine TL.vy (Val.move rfl) ?_
    refine TL.vy (Val.neqNil rfl rfl pt28) ?_
    refine TL.v (Val.pickAnd rfl rfl rfl) ?_
    refine TL.v (Val.assign rfl) ?_
    refine TL.nt ?_
    refine TC.r1 (hM := (fun w h => own_fin0 w h)) (M' := M) (fn := Try.f5) (fun _ _ h => h) rfl (RV.tmp rfl) ?_
    exact ⟨rfl, rfl⟩
  · skip
    refine TC.skip ?_
    refine AtX.then ?_
    refine TC.seq ?_
    refine TC.sr ?_
    refine TL.v (Val.assign rfl) ?_
    refine TL.nt ?_
    refine TC.block ?_
    refine TC.loop (ι := (Nat × WS × Sl × Sl)) (fun x => [(1, .slice B ops.length cB), (5, .pointer (some ⟨K.bx, 0, none⟩)), (6, .pointer (some ⟨K.b, 0, none⟩)), (7, .pointer (some ⟨K.rb, 0, none⟩)), (8, .int .i64 (x.1 : Nat))]) (fun x => WH K x.2.1 x.2.2.1 x.2.2.2 M) (fun x => x.1 ≤ ops.length ∧ Inv K x.1 x.2.1 ∧ slOk x.2.2.1 4 x.2.1.kept.length (kc x.2.1.kept) ∧ slOk x.2.2.2 4 x.2.1.kept.length (kc x.2.1.kept)) (fun x => ops.length - x.1) (0, ⟨0, ss, rs, List.replicate N false, List.replicate N false, [], []⟩, none, none) ?_ (Sub.cons rfl (Sub.cons rfl (Sub.cons rfl (Sub.cons rfl (Sub.cons rfl (Sub.nil _)))))) (fun _ h => h) ?_
    · exact ⟨Nat.zero_le _, hI0, slOk_nil 4, slOk_nil 4⟩
    rintro ⟨i, s, σ, τ⟩ ⟨hi, hI, hσ, hτ⟩
    dsimp only at hi hI hσ hτ ⊢
    refine TC.seq ?_
    refine TC.sr ?_
    refine TL.v (Val.move rfl) ?_
    refine TL.v (Val.move rfl) ?_
    refine TL.v (Val.lenSl rfl rfl sl42) ?_
    refine TL.v (Val.lss rfl rfl) ?_
    refine TL.nt ?_
    refine TC.condP rfl (fun c2 => ?_) (fun c2 => ?_)
    · skip
      refine TC.skip ?_
      refine AtX.then ?_
      refine TC.seq ?_
      refine TC.block ?_
      refine TC.seq ?_
      have hlt : i < ops.length := by omega
      obtain ⟨o, ho⟩ : ∃ o, ops[i]? = some o := ⟨_, List.getElem?_eq_getElem hlt⟩
      obtain ⟨bB, oB, hBe, hRB⟩ := RdS.get hB (by rw [flat_len Op7.cs_len]; omega)
      refine TC.region ?_
      refine TL.v (Val.move rfl) ?_
      refine TL.v (Val.move rfl) ?_
      refine TL.v (Val.indexAddr (b := bB) (o := oB) (l := ops.length) (c := cB) (i := i) (r := oB + 7 * i) (by rw [← hBe]; rfl) rfl sl42 sz46 rfl hlt (by omega)) ?_
      refine TL.v (Val.loadAggR (o := oB) (j := 7 * i) (vs := o.cs) rfl ag46 sz46 (hRB.mono (fun _ h => WH_sub h)) rfl (flat_seg Op7.cs_len ho) rfl) ?_
      refine TL.d (Does.alloc ze46 rfl) ?_
      rintro _ _ ⟨bo, rfl, rfl⟩
      refine TL.d (Does.store (i := 0) rfl rfl rfl sz46 rfl rfl (by first | exact Nat.le_of_ble_eq_true rfl | decide | omega) rfl rfl) ?_
      rintro _ _ ⟨rfl, rfl⟩
      refine TL.nt ?_
      refine TC.join (ι := Op7) (fun o => [(1, .slice B ops.length cB), (5, .pointer (some ⟨K.bx, 0, none⟩)), (6, .pointer (some ⟨K.b, 0, none⟩)), (7, .pointer (some ⟨K.rb, 0, none⟩)), (8, .int .i64 (i : Nat)), (9, .pointer (some ⟨bo, 0, none⟩))]) (fun o => (bo, .cells #[.int .i64 o.kind, .int .i64 o.who, .int .i64 o.m, .int .i64 o.g, .int .i64 o.t, .int .i64 o.v, .int .i64 o.s] 46 (0, 0)) :: WH K s σ τ M) (fun _ => True) ?_ ?_
      · skip
        refine TC.sr ?_
        refine TL.v (Val.move rfl) ?_
        refine TL.v (Val.rem rfl rfl (by decide) (r := ((i % 5 : Nat) : Int)) (rem_nat i 5)) ?_
        refine TL.v (Val.lss rfl rfl) ?_
        refine TL.nt ?_
        refine TC.condP rfl (fun c3 => ?_) (fun c3 => ?_)
        · skip
          obtain ⟨rK1, hK1, g1_, l1_⟩ := rem_ex (m := IntKind.u64.wrap o.who) (d := cf.n) (by rw [w_u64m]; omega) (by omega)
          obtain ⟨rK2, hK2, g2_, l2_⟩ := rem_ex (m := IntKind.u64.wrap o.m) (d := 4) (by rw [w_u64m]; omega) (by decide)
          obtain ⟨rK3, hK3, g3_, l3_⟩ := rem_ex (m := IntKind.u64.wrap o.t) (d := 5) (by rw [w_u64m]; omega) (by decide)
          obtain ⟨rK4, hK4, g4_, l4_⟩ := rem_ex (m := IntKind.u64.wrap o.v) (d := 100) (by rw [w_u64m]; omega) (by decide)
          obtain ⟨rK5, hK5, g5_, l5_⟩ := rem_ex (m := IntKind.u64.wrap o.s) (d := 9) (by rw [w_u64m]; omega) (by decide)
          obtain ⟨rK6, hK6, g6_, l6_⟩ := rem_ex (m := IntKind.u64.wrap o.g) (d := 3) (by rw [w_u64m]; omega) (by decide)
          skip
          skip
          refine TC.drawG [35] (WH K s σ τ M) mixed 46 ?_
          refine TG.tk false 0 1 rfl rfl rfl (Val.fieldAddr rfl fl46_1 sz3 rfl) ?_
          refine TG.tk false 1 3 rfl rfl rfl (Val.load 0 rfl ag3 rfl rfl) ?_
          refine TG.tk false 2 7 rfl rfl rfl (Val.convI rfl iu3 in32 rfl) ?_
          refine TG.tk false 3 15 rfl rfl rfl (Val.fieldAddr rfl fl26_0 sz3 rfl) ?_
          refine TG.tk false 4 31 rfl rfl rfl (Val.loadMem rfl ag3 (List.mem_cons_of_mem _ WH_bx) rfl) ?_
          refine TG.tk false 5 63 rfl rfl rfl (Val.convI rfl iu3 in32 (r := cf.n) (by rw [hKc]; exact w_u64 (by omega) (by omega))) ?_
          refine TG.tk false 6 127 rfl rfl rfl (Val.rem rfl rfl (by omega) (r := rK1) hK1) ?_
          refine TG.tk false 7 255 rfl rfl rfl (Val.convI rfl iu32 in3 (r := rK1) (w_i64 (by omega) (by omega))) ?_
          refine TG.tk false 8 511 rfl rfl rfl (Val.fieldAddr rfl fl46_2 sz3 rfl) ?_
          refine TG.tk false 9 1023 rfl rfl rfl (Val.load 0 rfl ag3 rfl rfl) ?_
          refine TG.tw false 10 2047 rfl rfl rfl (Val.convI rfl iu3 in32 rfl) ?_
          refine TG.tw false 11 4095 rfl rfl rfl (Val.rem rfl rfl (by decide) (r := rK2) hK2) ?_
          refine TG.tw false 12 8191 rfl rfl rfl (Val.convI rfl iu32 in3 (r := rK2) (w_i64 (by omega) (by omega))) ?_
          refine TG.tk false 13 16383 rfl rfl rfl (Val.fieldAddr rfl fl46_4 sz2 rfl) ?_
          refine TG.tk false 14 32767 rfl rfl rfl (Val.load 0 rfl ag2 rfl rfl) ?_
          refine TG.tw false 15 65535 rfl rfl rfl (Val.convI rfl iu2 in24 rfl) ?_
          refine TG.tw false 16 131071 rfl rfl rfl (Val.rem rfl rfl (by decide) (r := rK3) hK3) ?_
          refine TG.tw false 17 262143 rfl rfl rfl (Val.convI rfl iu24 in2 (r := rK3) (w_i64 (by omega) (by omega))) ?_
          refine TG.tk false 18 524287 rfl rfl rfl (Val.fieldAddr rfl fl46_5 sz2 rfl) ?_
          refine TG.tk false 19 1048575 rfl rfl rfl (Val.load 0 rfl ag2 rfl rfl) ?_
          refine TG.tw false 20 2097151 rfl rfl rfl (Val.convI rfl iu2 in24 rfl) ?_
          refine TG.tw false 21 4194303 rfl rfl rfl (Val.rem rfl rfl (by decide) (r := rK4) hK4) ?_
          refine TG.tw false 22 8388607 rfl rfl rfl (Val.convI rfl iu24 in2 (r := rK4) (w_i64 (by omega) (by omega))) ?_
          refine TG.tk false 23 16777215 rfl rfl rfl (Val.fieldAddr rfl fl46_6 sz2 rfl) ?_
          refine TG.tk false 24 33554431 rfl rfl rfl (Val.load 0 rfl ag2 rfl rfl) ?_
          refine TG.tw false 25 67108863 rfl rfl rfl (Val.convI rfl iu2 in24 rfl) ?_
          refine TG.tw false 26 134217727 rfl rfl rfl (Val.rem rfl rfl (by decide) (r := rK5) hK5) ?_
          refine TG.tw false 27 268435455 rfl rfl rfl (Val.convI rfl iu24 in2 (r := rK5) (w_i64 (by omega) (by omega))) ?_
          refine TG.tw false 28 536870911 rfl rfl rfl (Val.add rfl rfl (r := 1 + rK5) (w_i64 (by omega) (by omega))) ?_
          refine TG.tk false 29 1073741823 rfl rfl rfl (Val.fieldAddr rfl fl46_3 sz3 rfl) ?_
          refine TG.tk false 30 2147483647 rfl rfl rfl (Val.load 0 rfl ag3 rfl rfl) ?_
          refine TG.tw false 31 4294967295 rfl rfl rfl (Val.convI rfl iu3 in32 rfl) ?_
          refine TG.tw false 32 8589934591 rfl rfl rfl (Val.rem rfl rfl (by decide) (r := rK6) hK6) ?_
          refine TG.tw false 33 17179869183 rfl rfl rfl (Val.convI rfl iu32 in3 (r := rK6) (w_i64 (by omega) (by omega))) ?_
          refine TG.tk false 34 34359738367 rfl rfl rfl (Val.fieldAddr rfl fl46_1 sz3 rfl) ?_
          refine TG.one 35 (by kernel_rfl) ?_
          refine TP.dz true 68719476735 none rfl rfl rfl rfl (Does.store (i := 0) (M' := (bo, .cells #[.int .i64 o.kind, .int .i64 rK1, .int .i64 o.m, .int .i64 o.g, .int .i64 o.t, .int .i64 o.v, .int .i64 o.s] 46 (0, 0)) :: WH K s σ τ M) rfl rfl rfl sz3 rfl rfl (by exact Nat.le_of_ble_eq_true rfl) rfl rfl) ?_
          rintro _ _ ⟨rfl, rfl⟩
          refine roK ?_
          refine TG.tk true 36 137438953471 rfl rfl rfl (Val.fieldAddr rfl fl46_2 sz3 rfl) ?_
          refine TG.one 37 (by kernel_rfl) ?_
          refine TP.dz true 274877906943 none rfl rfl rfl rfl (Does.store (i := 0) (M' := (bo, .cells #[.int .i64 o.kind, .int .i64 rK1, .int .i64 rK2, .int .i64 o.g, .int .i64 o.t, .int .i64 o.v, .int .i64 o.s] 46 (0, 0)) :: WH K s σ τ M) rfl rfl rfl sz3 rfl rfl (by exact Nat.le_of_ble_eq_true rfl) rfl rfl) ?_
          rintro _ _ ⟨rfl, rfl⟩
          refine roK ?_
          refine TG.tk true 38 549755813887 rfl rfl rfl (Val.fieldAddr rfl fl46_4 sz2 rfl) ?_
          refine TG.one 39 (by kernel_rfl) ?_
          refine TP.dz true 1099511627775 none rfl rfl rfl rfl (Does.store (i := 0) (M' := (bo, .cells #[.int .i64 o.kind, .int .i64 rK1, .int .i64 rK2, .int .i64 o.g, .int .i64 rK3, .int .i64 o.v, .int .i64 o.s] 46 (0, 0)) :: WH K s σ τ M) rfl rfl rfl sz2 rfl rfl (by exact Nat.le_of_ble_eq_true rfl) rfl rfl) ?_
          rintro _ _ ⟨rfl, rfl⟩
          refine roK ?_
          refine TG.tk true 40 2199023255551 rfl rfl rfl (Val.fieldAddr rfl fl46_5 sz2 rfl) ?_
          refine TG.one 41 (by kernel_rfl) ?_
          refine TP.dz true 4398046511103 none rfl rfl rfl rfl (Does.store (i := 0) (M' := (bo, .cells #[.int .i64 o.kind, .int .i64 rK1, .int .i64 rK2, .int .i64 o.g, .int .i64 rK3, .int .i64 rK4, .int .i64 o.s] 46 (0, 0)) :: WH K s σ τ M) rfl rfl rfl sz2 rfl rfl (by exact Nat.le_of_ble_eq_true rfl) rfl rfl) ?_
          rintro _ _ ⟨rfl, rfl⟩
          refine roK ?_
          refine TG.tk true 42 8796093022207 rfl rfl rfl (Val.fieldAddr rfl fl46_6 sz2 rfl) ?_
          refine TG.one 43 (by kernel_rfl) ?_
          refine TP.dz true 17592186044415 none rfl rfl rfl rfl (Does.store (i := 0) (M' := (bo, .cells #[.int .i64 o.kind, .int .i64 rK1, .int .i64 rK2, .int .i64 o.g, .int .i64 rK3, .int .i64 rK4, .int .i64 (1 + rK5)] 46 (0, 0)) :: WH K s σ τ M) rfl rfl rfl sz2 rfl rfl (by exact Nat.le_of_ble_eq_true rfl) rfl rfl) ?_
          rintro _ _ ⟨rfl, rfl⟩
          refine roK ?_
          refine TG.tk true 44 35184372088831 rfl rfl rfl (Val.fieldAddr rfl fl46_3 sz3 rfl) ?_
          refine TG.one 45 (by kernel_rfl) ?_
          refine TP.dz true 70368744177663 none rfl rfl rfl rfl (Does.store (i := 0) (M' := (bo, .cells #[.int .i64 o.kind, .int .i64 rK1, .int .i64 rK2, .int .i64 rK6, .int .i64 rK3, .int .i64 rK4, .int .i64 (1 + rK5)] 46 (0, 0)) :: WH K s σ τ M) rfl rfl rfl sz3 rfl rfl (by exact Nat.le_of_ble_eq_true rfl) rfl rfl) ?_
          rintro _ _ ⟨rfl, rfl⟩
          refine roK ?_
          refine TG.done (by kernel_rfl) ?_ _
          refine AtX.join (⟨o.kind, rK1, rK2, rK6, rK3, rK4, 1 + rK5⟩ : Op7) ?_ (Sub.cons rfl (Sub.cons rfl (Sub.cons rfl (Sub.cons rfl (Sub.cons rfl (Sub.cons rfl (Sub.nil _))))))) (fun _ h => h)
          trivial
        · skip
          refine TC.skip ?_
          refine AtX.join o ?_ (Sub.cons rfl (Sub.cons rfl (Sub.cons rfl (Sub.cons rfl (Sub.cons rfl (Sub.cons rfl (Sub.nil _))))))) (fun _ h => h)
          trivial
      · intro o2 _
        refine TC.seq ?_
        refine TC.heap (M' := WH K s σ τ ((bo, .cells #[.int .i64 o2.kind, .int .i64 o2.who, .int .i64 o2.m, .int .i64 o2.g, .int .i64 o2.t, .int .i64 o2.v, .int .i64 o2.s] 46 (0, 0)) :: M)) own_in ?_
        refine TC.region ?_
        refine TL.v (Val.assign rfl) ?_
        refine TL.nt ?_
        refine TC.sr ?_
        refine TL.v (Val.assign rfl) ?_
        refine TL.nt ?_
        refine TC.sr ?_
        refine TL.v (Val.assign rfl) ?_
        refine TL.v (Val.assign rfl) ?_
        refine TL.nt ?_
        refine TC.join (ι := JB) (fun q => [(1, .slice B ops.length cB), (5, .pointer (some ⟨K.bx, 0, none⟩)), (6, .pointer (some ⟨K.b, 0, none⟩)), (7, .pointer (some ⟨K.rb, 0, none⟩)), (8, .int .i64 (i : Nat)), (9, .pointer (some ⟨bo, 0, none⟩)), (10, .slice q.A q.ot.length q.cap), (11, .string (ofL q.ot)), (12, .int .i64 q.cd), (13, .int .i64 q.cd)]) (fun q => q.env ++ WH K q.s2 q.σ q.τ ((bo, .cells #[.int .i64 o2.kind, .int .i64 o2.who, .int .i64 o2.m, .int .i64 o2.g, .int .i64 o2.t, .int .i64 o2.v, .int .i64 o2.s] 46 (0, 0)) :: M)) (fun q => Inv K (i + 1) q.s2 ∧ slOk q.σ 4 q.s2.kept.length (kc q.s2.kept) ∧ slOk q.τ 4 q.s2.kept.length (kc q.s2.kept) ∧ RdS q.env q.A (bv q.ot) ∧ q.ot.length ≤ 100) ?_ ?_
        · skip
          refine TC.sr ?_
          refine TL.v (Val.fieldAddr rfl fl46_0 sz3 rfl) ?_
          refine TL.v (Val.loadMem rfl ag3 (WH_sub (List.mem_cons_self ..)) rfl) ?_
          refine TL.v (Val.and rfl rfl rfl) ?_
          refine TL.v (Val.assign rfl) ?_
          refine TL.nt ?_
          refine TC.block ?_
          refine TC.sr ?_
          refine TL.v (Val.move rfl) ?_
          refine TL.v (Val.lss rfl rfl) ?_
          refine TL.v (Val.assign rfl) ?_
          refine TL.nt ?_
          refine TC.condP rfl (fun c4 => ?_) (fun c4 => ?_)
          · skip
            refine TC.seq ?_
            obtain ⟨cd, ot, s1, s2, hI2, hk21, hk12, hot, hP, hQ⟩ := pairS hK hI (by omega) o2.who o2.m o2.t o2.v
            dsimp only at hP hQ
            refine TC.region ?_
            refine TL.v (Val.move rfl) ?_
            refine TL.v (Val.fieldAddr rfl fl46_1 sz3 rfl) ?_
            refine TL.v (Val.loadMem rfl ag3 (WH_sub (List.mem_cons_self ..)) rfl) ?_
            refine TL.v (Val.fieldAddr rfl fl46_2 sz3 rfl) ?_
            refine TL.v (Val.loadMem rfl ag3 (WH_sub (List.mem_cons_self ..)) rfl) ?_
            refine TL.v (Val.fieldAddr rfl fl46_4 sz2 rfl) ?_
            refine TL.v (Val.loadMem rfl ag2 (WH_sub (List.mem_cons_self ..)) rfl) ?_
            refine TL.v (Val.fieldAddr rfl fl46_5 sz2 rfl) ?_
            refine TL.v (Val.loadMem rfl ag2 (WH_sub (List.mem_cons_self ..)) rfl) ?_
            refine TL.d (Does.callF go16 rfl (hP σ τ _ hσ)) ?_
            rintro _ _ ⟨env, A1, cap, σ1, rfl, hσ1, hRd1, rfl⟩
            refine TL.v (Val.move rfl) ?_
            refine TL.v (Val.extract rfl rfl) ?_
            refine TL.v (Val.extract rfl rfl) ?_
            refine TL.v (Val.assign rfl) ?_
            refine TL.v (Val.assign rfl) ?_
            refine TL.nt ?_
            refine TC.region ?_
            refine TL.v (Val.move rfl) ?_
            refine TL.v (Val.fieldAddr rfl fl46_1 sz3 rfl) ?_
            refine TL.v (Val.loadMem rfl ag3 (List.mem_append_right _ (WH_sub (List.mem_cons_self ..))) rfl) ?_
            refine TL.v (Val.fieldAddr rfl fl46_2 sz3 rfl) ?_
            refine TL.v (Val.loadMem rfl ag3 (List.mem_append_right _ (WH_sub (List.mem_cons_self ..))) rfl) ?_
            refine TL.v (Val.fieldAddr rfl fl46_4 sz2 rfl) ?_
            refine TL.v (Val.loadMem rfl ag2 (List.mem_append_right _ (WH_sub (List.mem_cons_self ..))) rfl) ?_
            refine TL.v (Val.fieldAddr rfl fl46_5 sz2 rfl) ?_
            refine TL.v (Val.loadMem rfl ag2 (List.mem_append_right _ (WH_sub (List.mem_cons_self ..))) rfl) ?_
            refine TL.d (Does.callF go19 rfl (hQ env σ1 τ _ hτ)) ?_
            rintro _ _ ⟨τ1, rfl, hτ1, rfl⟩
            refine TL.v (Val.move rfl) ?_
            refine TL.v (Val.extract rfl rfl) ?_
            refine TL.v (Val.extract rfl rfl) ?_
            refine TL.v (Val.assign rfl) ?_
            refine TL.v (Val.assign rfl) ?_
            refine TL.nil ?_
            refine AtX.blk ?_
            refine AtX.join (⟨cd, ot, env, A1, cap, s2, σ1, τ1⟩ : JB) ?_ (Sub.cons rfl (Sub.cons rfl (Sub.cons rfl (Sub.cons rfl (Sub.cons rfl (Sub.cons rfl (Sub.cons rfl (Sub.cons rfl (Sub.cons rfl (Sub.cons rfl (Sub.nil _))))))))))) (fun _ h => h)
            exact ⟨hI2, hσ1, hτ1, hRd1, hot⟩
          · skip
            refine TC.sr ?_
            refine TL.v (Val.move rfl) ?_
            refine TL.v (Val.eqlI rfl rfl) ?_
            refine TL.v (Val.assign rfl) ?_
            refine TL.nt ?_
            refine TC.condP rfl (fun c5 => ?_) (fun c5 => ?_)
            · skip
              refine TC.seq ?_
              obtain ⟨cd, ot, s1, s2, hI2, hk21, hk12, hot, hP, hQ⟩ := pairR hK hI (by omega) o2.who o2.t
              dsimp only at hP hQ
              refine TC.region ?_
              refine TL.v (Val.move rfl) ?_
              refine TL.v (Val.fieldAddr rfl fl46_1 sz3 rfl) ?_
              refine TL.v (Val.loadMem rfl ag3 (WH_sub (List.mem_cons_self ..)) rfl) ?_
              refine TL.v (Val.fieldAddr rfl fl46_4 sz2 rfl) ?_
              refine TL.v (Val.loadMem rfl ag2 (WH_sub (List.mem_cons_self ..)) rfl) ?_
              refine TL.d (Does.callF go20 rfl (hP σ τ _ hσ)) ?_
              rintro _ _ ⟨env, A1, cap, σ1, rfl, hσ1, hRd1, rfl⟩
              refine TL.v (Val.move rfl) ?_
              refine TL.v (Val.extract rfl rfl) ?_
              refine TL.v (Val.extract rfl rfl) ?_
              refine TL.v (Val.assign rfl) ?_
              refine TL.v (Val.assign rfl) ?_
              refine TL.nt ?_
              refine TC.region ?_
              refine TL.v (Val.move rfl) ?_
              refine TL.v (Val.fieldAddr rfl fl46_1 sz3 rfl) ?_
              refine TL.v (Val.loadMem rfl ag3 (List.mem_append_right _ (WH_sub (List.mem_cons_self ..))) rfl) ?_
              refine TL.v (Val.fieldAddr rfl fl46_4 sz2 rfl) ?_
              refine TL.v (Val.loadMem rfl ag2 (List.mem_append_right _ (WH_sub (List.mem_cons_self ..))) rfl) ?_
              refine TL.d (Does.callF go21 rfl (hQ env σ1 τ _ hτ)) ?_
              rintro _ _ ⟨τ1, rfl, hτ1, rfl⟩
              refine TL.v (Val.move rfl) ?_
              refine TL.v (Val.extract rfl rfl) ?_
              refine TL.v (Val.extract rfl rfl) ?_
              refine TL.v (Val.assign rfl) ?_
              refine TL.v (Val.assign rfl) ?_
              refine TL.nil ?_
              refine AtX.blk ?_
              refine AtX.join (⟨cd, ot, env, A1, cap, s2, σ1, τ1⟩ : JB) ?_ (Sub.cons rfl (Sub.cons rfl (Sub.cons rfl (Sub.cons rfl (Sub.cons rfl (Sub.cons rfl (Sub.cons rfl (Sub.cons rfl (Sub.cons rfl (Sub.cons rfl (Sub.nil _))))))))))) (fun _ h => h)
              exact ⟨hI2, hσ1, hτ1, hRd1, hot⟩
            · skip
              refine TC.sr ?_
              refine TL.v (Val.move rfl) ?_
              refine TL.v (Val.eqlI rfl rfl) ?_
              refine TL.v (Val.assign rfl) ?_
              refine TL.nt ?_
              refine TC.condP rfl (fun c6 => ?_) (fun c6 => ?_)
              · skip
                obtain ⟨cd, s1, s2, hI2, hk2k, hP, hQ⟩ := pairC hK hI (by omega) o2.who
                refine TC.drawL [(bo, .cells #[.int .i64 o2.kind, .int .i64 o2.who, .int .i64 o2.m, .int .i64 o2.g, .int .i64 o2.t, .int .i64 o2.v, .int .i64 o2.s] 46 (0, 0))] mixed 10 ?_
                refine TA.tk 0 1 rfl rfl rfl (Val.move rfl) ?_ (hro := (by first | exact ro_mem (WH_sub (List.mem_cons_self ..)) | exact ro_mem (List.mem_append_right _ (WH_sub (List.mem_cons_self ..)))))
                refine TA.tk 1 3 rfl rfl rfl (Val.fieldAddr rfl fl46_1 sz3 rfl) ?_ (hro := (by first | exact ro_mem (WH_sub (List.mem_cons_self ..)) | exact ro_mem (List.mem_append_right _ (WH_sub (List.mem_cons_self ..)))))
                refine TA.tk 2 7 rfl rfl rfl (Val.load 0 rfl ag3 rfl rfl) ?_ (hro := (by first | exact ro_mem (WH_sub (List.mem_cons_self ..)) | exact ro_mem (List.mem_append_right _ (WH_sub (List.mem_cons_self ..)))))
                refine TA.tk 4 23 rfl rfl rfl (Val.move rfl) ?_ (hro := (by first | exact ro_mem (WH_sub (List.mem_cons_self ..)) | exact ro_mem (List.mem_append_right _ (WH_sub (List.mem_cons_self ..)))))
                refine TA.tk 5 55 rfl rfl rfl (Val.fieldAddr rfl fl46_1 sz3 rfl) ?_ (hro := (by first | exact ro_mem (WH_sub (List.mem_cons_self ..)) | exact ro_mem (List.mem_append_right _ (WH_sub (List.mem_cons_self ..)))))
                refine TA.tk 6 119 rfl rfl rfl (Val.load 0 rfl ag3 rfl rfl) ?_ (hro := (by first | exact ro_mem (WH_sub (List.mem_cons_self ..)) | exact ro_mem (List.mem_append_right _ (WH_sub (List.mem_cons_self ..)))))
                refine TA.one 3 (by kernel_rfl) ?_
                refine TO.dz 127 (some 183) rfl rfl rfl rfl (Does.callF go14 rfl (hP σ τ _)) ?_
                rintro _ _ ⟨rfl, rfl⟩
                refine ⟨(by first | exact ro_mem (WH_sub (List.mem_cons_self ..)) | exact ro_mem (List.mem_append_right _ (WH_sub (List.mem_cons_self ..)))), ?_⟩
                refine TA.one 7 (by kernel_rfl) ?_
                refine TO.dz 255 (some 187) rfl rfl rfl rfl (Does.callF go22 rfl (hQ σ τ _)) ?_
                rintro _ _ ⟨rfl, rfl⟩
                refine ⟨(by first | exact ro_mem (WH_sub (List.mem_cons_self ..)) | exact ro_mem (List.mem_append_right _ (WH_sub (List.mem_cons_self ..)))), ?_⟩
                refine TA.tk 8 511 rfl rfl rfl (Val.assign rfl) ?_ (hro := (by first | exact ro_mem (WH_sub (List.mem_cons_self ..)) | exact ro_mem (List.mem_append_right _ (WH_sub (List.mem_cons_self ..)))))
                refine TA.tk 9 1023 rfl rfl rfl (Val.assign rfl) ?_ (hro := (by first | exact ro_mem (WH_sub (List.mem_cons_self ..)) | exact ro_mem (List.mem_append_right _ (WH_sub (List.mem_cons_self ..)))))
                refine TA.done (by kernel_rfl) ?_
                refine AtX.blk ?_
                refine AtX.join (⟨cd, [], [], none, 0, s2, σ, τ⟩ : JB) ?_ (Sub.cons rfl (Sub.cons rfl (Sub.cons rfl (Sub.cons rfl (Sub.cons rfl (Sub.cons rfl (Sub.cons rfl (Sub.cons rfl (Sub.cons rfl (Sub.cons rfl (Sub.nil _))))))))))) (fun _ h => h)
                exact ⟨hI2, by rw [hk2k]; exact hσ, by rw [hk2k]; exact hτ, .nil _ _, by simp⟩
              · skip
                refine TC.seq ?_
                obtain ⟨cd, ot, s1, s2, hI2, hk21, hk12, hot, hP, hQ⟩ := pairF hK hI (by omega) o2.who o2.m o2.t o2.v o2.s o2.g
                dsimp only at hP hQ
                refine TC.region ?_
                refine TL.v (Val.move rfl) ?_
                refine TL.v (Val.fieldAddr rfl fl46_1 sz3 rfl) ?_
                refine TL.v (Val.loadMem rfl ag3 (WH_sub (List.mem_cons_self ..)) rfl) ?_
                refine TL.v (Val.fieldAddr rfl fl46_2 sz3 rfl) ?_
                refine TL.v (Val.loadMem rfl ag3 (WH_sub (List.mem_cons_self ..)) rfl) ?_
                refine TL.v (Val.fieldAddr rfl fl46_4 sz2 rfl) ?_
                refine TL.v (Val.loadMem rfl ag2 (WH_sub (List.mem_cons_self ..)) rfl) ?_
                refine TL.v (Val.fieldAddr rfl fl46_5 sz2 rfl) ?_
                refine TL.v (Val.loadMem rfl ag2 (WH_sub (List.mem_cons_self ..)) rfl) ?_
                refine TL.v (Val.fieldAddr rfl fl46_6 sz2 rfl) ?_
                refine TL.v (Val.loadMem rfl ag2 (WH_sub (List.mem_cons_self ..)) rfl) ?_
                refine TL.v (Val.fieldAddr rfl fl46_3 sz3 rfl) ?_
                refine TL.v (Val.loadMem rfl ag3 (WH_sub (List.mem_cons_self ..)) rfl) ?_
                refine TL.d (Does.callF go23 rfl (hP σ τ _ hσ)) ?_
                rintro _ _ ⟨env, A1, cap, σ1, rfl, hσ1, hRd1, rfl⟩
                refine TL.v (Val.move rfl) ?_
                refine TL.v (Val.extract rfl rfl) ?_
                refine TL.v (Val.extract rfl rfl) ?_
                refine TL.v (Val.assign rfl) ?_
                refine TL.v (Val.assign rfl) ?_
                refine TL.nt ?_
                refine TC.region ?_
                refine TL.v (Val.move rfl) ?_
                refine TL.v (Val.fieldAddr rfl fl46_1 sz3 rfl) ?_
                refine TL.v (Val.loadMem rfl ag3 (List.mem_append_right _ (WH_sub (List.mem_cons_self ..))) rfl) ?_
                refine TL.v (Val.fieldAddr rfl fl46_2 sz3 rfl) ?_
                refine TL.v (Val.loadMem rfl ag3 (List.mem_append_right _ (WH_sub (List.mem_cons_self ..))) rfl) ?_
                refine TL.v (Val.fieldAddr rfl fl46_4 sz2 rfl) ?_
                refine TL.v (Val.loadMem rfl ag2 (List.mem_append_right _ (WH_sub (List.mem_cons_self ..))) rfl) ?_
                refine TL.v (Val.fieldAddr rfl fl46_5 sz2 rfl) ?_
                refine TL.v (Val.loadMem rfl ag2 (List.mem_append_right _ (WH_sub (List.mem_cons_self ..))) rfl) ?_
                refine TL.v (Val.fieldAddr rfl fl46_6 sz2 rfl) ?_
                refine TL.v (Val.loadMem rfl ag2 (List.mem_append_right _ (WH_sub (List.mem_cons_self ..))) rfl) ?_
                refine TL.v (Val.fieldAddr rfl fl46_3 sz3 rfl) ?_
                refine TL.v (Val.loadMem rfl ag3 (List.mem_append_right _ (WH_sub (List.mem_cons_self ..))) rfl) ?_
                refine TL.d (Does.callF go24 rfl (hQ env σ1 τ _ hτ)) ?_
                rintro _ _ ⟨τ1, rfl, hτ1, rfl⟩
                refine TL.v (Val.move rfl) ?_
                refine TL.v (Val.extract rfl rfl) ?_
                refine TL.v (Val.extract rfl rfl) ?_
                refine TL.v (Val.assign rfl) ?_
                refine TL.v (Val.assign rfl) ?_
                refine TL.nil ?_
                refine AtX.blk ?_
                refine AtX.join (⟨cd, ot, env, A1, cap, s2, σ1, τ1⟩ : JB) ?_ (Sub.cons rfl (Sub.cons rfl (Sub.cons rfl (Sub.cons rfl (Sub.cons rfl (Sub.cons rfl (Sub.cons rfl (Sub.cons rfl (Sub.cons rfl (Sub.cons rfl (Sub.nil _))))))))))) (fun _ h => h)
                exact ⟨hI2, hσ1, hτ1, hRd1, hot⟩
        · rintro q ⟨hI2, hσ2, hτ2, hRd, hot⟩
          refine TC.seq ?_
          have hNl : K.N = q.s2.l.length := hI2.ll.symm
          have hcn : K.c.n = (q.s2.l.length : Nat) := by rw [hK.n, hNl]
          have hl100 : q.s2.l.length ≤ 100 := by rw [← hNl]; omega
          have hl1000 : q.s2.l.length ≤ 1000 := by omega
          have hkl1000 : q.s2.kept.length ≤ 1000 := by have := hI2.kl; omega
          have hW : (q.env ++ WH K q.s2 q.σ q.τ ((bo, .cells #[.int .i64 o2.kind, .int .i64 o2.who, .int .i64 o2.m, .int .i64 o2.g, .int .i64 o2.t, .int .i64 o2.v, .int .i64 o2.s] 46 (0, 0)) :: M))[q.env.length + 0]? = some (wob K.b K.c (some ⟨K.bl, 0, none⟩) K.N K.cl K.bb q.s2.l.length q.σ q.s2.kept.length q.s2.n) := by rw [← hNl]; exact get_app rfl
          have hBB : (q.env ++ WH K q.s2 q.σ q.τ ((bo, .cells #[.int .i64 o2.kind, .int .i64 o2.who, .int .i64 o2.m, .int .i64 o2.g, .int .i64 o2.t, .int .i64 o2.v, .int .i64 o2.s] 46 (0, 0)) :: M))[q.env.length + ((slH q.σ 100 (kc q.s2.kept)).length + 2 + 1)]? = some (K.bb, row 4 (q.s2.l.map Value.bool)) := get_app (WH_at WH0_2)
          have hRW : (q.env ++ WH K q.s2 q.σ q.τ ((bo, .cells #[.int .i64 o2.kind, .int .i64 o2.who, .int .i64 o2.m, .int .i64 o2.g, .int .i64 o2.t, .int .i64 o2.v, .int .i64 o2.s] 46 (0, 0)) :: M))[q.env.length + ((slH q.σ 100 (kc q.s2.kept)).length + 0 + 1)]? = some (rwo K.rb K.c (some ⟨K.rl, 0, none⟩) K.N K.rcl K.rbb q.s2.l.length q.τ q.s2.kept.length) := by rw [← hNl]; exact get_app (WH_rw hI2.k2)
          have hRB : (q.env ++ WH K q.s2 q.σ q.τ ((bo, .cells #[.int .i64 o2.kind, .int .i64 o2.who, .int .i64 o2.m, .int .i64 o2.g, .int .i64 o2.t, .int .i64 o2.v, .int .i64 o2.s] 46 (0, 0)) :: M))[q.env.length + ((slH q.σ 100 (kc q.s2.kept)).length + 4 + 1)]? = some (K.rbb, row 4 (q.s2.l.map Value.bool)) := by rw [← hI2.l2]; exact get_app (WH_at rfl)
          have hKσ : RdS (q.env ++ WH K q.s2 q.σ q.τ ((bo, .cells #[.int .i64 o2.kind, .int .i64 o2.who, .int .i64 o2.m, .int .i64 o2.g, .int .i64 o2.t, .int .i64 o2.v, .int .i64 o2.s] 46 (0, 0)) :: M)) (slA q.σ) (q.s2.kept.flatMap Smp.cs) := (WH_kσ hσ2).app _
          have hKτ : RdS (q.env ++ WH K q.s2 q.σ q.τ ((bo, .cells #[.int .i64 o2.kind, .int .i64 o2.who, .int .i64 o2.m, .int .i64 o2.g, .int .i64 o2.t, .int .i64 o2.v, .int .i64 o2.s] 46 (0, 0)) :: M)) (slA q.τ) (q.s2.kept.flatMap Smp.cs) := (WH_kτ hI2.k2 hτ2).app _
          have hhl : (hon q.s2.l q.s2.kept o2.m o2.t).length ≤ 100000 := by have h1 := honTo_le q.s2.l q.s2.kept o2.m o2.t q.s2.l.length; have h2 : q.s2.l.length * q.s2.kept.length ≤ 100 * 1000 := Nat.mul_le_mul hl100 hkl1000; unfold hon; omega
          refine TC.drawLM mixed 33 ?_
          refine TA.tk 0 1 rfl rfl rfl (Val.move rfl) ?_ (hro := ro_s)
          refine TA.tk 1 3 rfl rfl rfl (Val.move rfl) ?_ (hro := ro_s)
          refine TA.tk 2 7 rfl rfl rfl (Val.same (v' := .bool false) (Val.neqI rfl rfl) (congrArg Value.bool (by simp))) ?_ (hro := ro_s)
          refine TA.tk 3 15 rfl rfl rfl (Val.move rfl) ?_ (hro := ro_s)
          refine TA.tkY 4 31 rfl rfl rfl rfl rfl (Val.move rfl) ?_ (hro := ro_s)
          refine TA.tkY 5 63 rfl rfl rfl rfl rfl (Val.b2s (l := q.ot) rfl us37 ui5 un9 rfl (hRd.pre _)) ?_ (hro := ro_s)
          refine TA.tkY 6 127 rfl rfl rfl rfl rfl (Val.move rfl) ?_ (hro := ro_s)
          refine TA.tkY 7 255 rfl rfl rfl rfl rfl (Val.same (v' := .bool false) (Val.neqL rfl rfl) (congrArg Value.bool (by simp))) ?_ (hro := ro_s)
          refine TA.tk 8 511 rfl rfl rfl (Val.same (v' := .bool false) (Val.pickOr rfl rfl rfl) (rfl)) ?_ (hro := ro_s)
          refine TA.tk 9 1023 rfl rfl rfl (Val.move rfl) ?_ (hro := ro_s)
          refine TA.tkY 10 2047 rfl rfl rfl rfl rfl (Val.move rfl) ?_ (hro := ro_s)
          refine TA.tkY 12 6143 rfl rfl rfl rfl rfl (Val.move rfl) ?_ (hro := ro_s)
          refine TA.one 11 (by kernel_rfl) ?_
          refine TO.dzY 8191 (some 199) rfl rfl rfl rfl rfl rfl (Does.callF go15 rfl (Bad_fn K.b _ _ K.c _ _ _ _ _ _ _ q.s2.l _ hW hBB hl1000)) ?_
          rintro _ _ ⟨ν1, rfl, hν1, rfl⟩
          refine ⟨ro_s, ?_⟩
          refine TA.one 13 (by kernel_rfl) ?_
          refine TO.dzY 16383 (some 201) rfl rfl rfl rfl rfl rfl (Does.callF go26 rfl (rBad_fn K.rb _ _ K.c _ _ _ _ _ _ q.s2.l _ (get_app hRW) (get_app hRB) hcn hl100)) ?_
          rintro _ _ ⟨ν2, rfl, hν2, rfl⟩
          refine ⟨ro_s, ?_⟩
          refine TA.one 14 (by kernel_rfl) ?_
          refine TO.dzY 32767 (some 202) rfl rfl rfl rfl rfl rfl (Does.callF go25 rfl (SameInts_eq (bads q.s2.l) _ _ _ _ _ _ _ ((rdS_opt hν1).app _) (rdS_opt hν2) rfl rfl (by have := badTo_le q.s2.l q.s2.l.length; unfold bads; omega))) ?_
          rintro _ _ ⟨rfl, rfl⟩
          refine ⟨ro_s, ?_⟩
          refine TA.tkY 15 65535 rfl rfl rfl rfl rfl (Val.same (v' := .bool false) (Val.not rfl) (rfl)) ?_ (hro := ro_s)
          refine TA.tk 16 131071 rfl rfl rfl (Val.same (v' := .bool false) (Val.pickOr rfl rfl rfl) (rfl)) ?_ (hro := ro_s)
          refine TA.tk 17 262143 rfl rfl rfl (Val.move rfl) ?_ (hro := ro_s)
          refine TA.tkY 18 524287 rfl rfl rfl rfl rfl (Val.move rfl) ?_ (hro := ro_s)
          refine TA.tkY 19 1048575 rfl rfl rfl rfl rfl (Val.fieldAddr rfl fl46_4 sz2 rfl) ?_ (hro := ro_s)
          refine TA.tkY 20 2097151 rfl rfl rfl rfl rfl (Val.loadMem rfl ag2 (List.mem_append_right _ (WH_sub (List.mem_cons_self ..))) rfl) ?_ (hro := ro_s)
          refine TA.tkY 21 4194303 rfl rfl rfl rfl rfl (Val.fieldAddr rfl fl46_2 sz3 rfl) ?_ (hro := ro_s)
          refine TA.tkY 22 8388607 rfl rfl rfl rfl rfl (Val.loadMem rfl ag3 (List.mem_append_right _ (WH_sub (List.mem_cons_self ..))) rfl) ?_ (hro := ro_s)
          refine TA.tkY 24 25165823 rfl rfl rfl rfl rfl (Val.move rfl) ?_ (hro := ro_s)
          refine TA.tkY 25 58720255 rfl rfl rfl rfl rfl (Val.fieldAddr rfl fl46_4 sz2 rfl) ?_ (hro := ro_s)
          refine TA.tkY 26 125829119 rfl rfl rfl rfl rfl (Val.loadMem rfl ag2 (List.mem_append_right _ (WH_sub (List.mem_cons_self ..))) rfl) ?_ (hro := ro_s)
          refine TA.tkY 27 260046847 rfl rfl rfl rfl rfl (Val.fieldAddr rfl fl46_2 sz3 rfl) ?_ (hro := ro_s)
          refine TA.tkY 28 528482303 rfl rfl rfl rfl rfl (Val.loadMem rfl ag3 (List.mem_append_right _ (WH_sub (List.mem_cons_self ..))) rfl) ?_ (hro := ro_s)
          refine TA.one 23 (by kernel_rfl) ?_
          refine TO.dzY 536870911 (some 211) rfl rfl rfl rfl rfl rfl (Does.callF go17 rfl (Honest_fn K.b _ _ K.c _ _ _ _ _ _ _ q.s2.kept q.s2.l _ (get_app (get_app hW)) (get_app (get_app hBB)) hNl hl100 ((hKσ.app _).app _) rfl hkl1000 o2.m o2.t)) ?_
          rintro _ _ ⟨ω1, rfl, hω1, rfl⟩
          refine ⟨ro_s, ?_⟩
          refine TA.one 29 (by kernel_rfl) ?_
          refine TO.dzY 1073741823 (some 217) rfl rfl rfl rfl rfl rfl (Does.callF go28 rfl (rHonest_fn K.rb _ _ K.c _ _ _ _ _ _ q.s2.kept q.s2.l _ (get_app (get_app (get_app hRW))) (get_app (get_app (get_app hRB))) hcn hl100 (((hKτ.app _).app _).app _) rfl hkl1000 o2.m o2.t)) ?_
          rintro _ _ ⟨ω2, rfl, hω2, rfl⟩
          refine ⟨ro_s, ?_⟩
          refine TA.one 30 (by kernel_rfl) ?_
          refine TO.dzY 2147483647 (some 218) rfl rfl rfl rfl rfl rfl (Does.callF go27 rfl (SameList_eq (hon q.s2.l q.s2.kept o2.m o2.t) _ _ _ _ _ _ _ ((rdS_opt hω1).app _) (rdS_opt hω2) rfl rfl hhl)) ?_
          rintro _ _ ⟨rfl, rfl⟩
          refine ⟨ro_s, ?_⟩
          refine TA.tkY 31 4294967295 rfl rfl rfl rfl rfl (Val.same (v' := .bool false) (Val.not rfl) (rfl)) ?_ (hro := ro_s)
          refine TA.tk 32 8589934591 rfl rfl rfl (Val.same (v' := .bool false) (Val.pickOr rfl rfl rfl) (rfl)) ?_ (hro := ro_s)
          refine TA.done (by kernel_rfl) ?_
          refine AtX.then ?_
          refine TC.cond rfl (fun c7 => ?_) (fun c7 => ?_)
          · skip
            (exfalso; simp at c7)
          · skip
            refine TC.skip ?_
            refine AtX.blk ?_
            refine AtX.then ?_
            refine TC.region ?_
            refine TL.v (Val.move rfl) ?_
            refine TL.v (Val.add rfl rfl (w_i64 (by omega) (by omega))) ?_
            refine TL.v (Val.assign rfl) ?_
            refine TL.nil ?_
            refine AtX.round (i := (i, s, σ, τ)) (i + 1, q.s2, q.σ, q.τ) ?_ ?_ (Sub.cons rfl (Sub.cons rfl (Sub.cons rfl (Sub.cons rfl (Sub.cons rfl (Sub.nil _)))))) (fun w h => own_out5 w h)
            · exact ⟨by omega, hI2, hσ2, hτ2⟩
            · show ops.length - (i + 1) < ops.length - i; omega
    · skip
      refine TC.exit ?_
      refine AtX.seqX ?_
      refine AtX.seqX ?_
      refine AtX.hit ?_
      refine AtX.then ?_
      refine TC.seq ?_
      refine TC.drawLM mixed 10 ?_
      refine TA.one 0 (by kernel_rfl) ?_
      refine TO.dz 1 (some 221) rfl rfl rfl rfl (Does.callF go13 rfl (told23_fn _)) ?_
      rintro _ _ ⟨rfl, rfl⟩
      refine ⟨ro_s, ?_⟩
      refine TA.tk 1 3 rfl rfl rfl (Val.move rfl) ?_ (hro := ro_s)
      refine TA.tkY 2 7 rfl rfl rfl rfl rfl (Val.move rfl) ?_ (hro := ro_s)
      refine TA.tkY 5 39 rfl rfl rfl rfl rfl (Val.fieldAddr rfl fl26_1 sz3 rfl) ?_ (hro := ro_s)
      refine TA.tkY 6 103 rfl rfl rfl rfl rfl (Val.loadMem rfl ag3 WH_bx rfl) ?_ (hro := ro_s)
      refine TA.one 3 (by kernel_rfl) ?_
      refine TO.dzY 111 (some 224) rfl rfl rfl rfl rfl rfl (Does.callF go15 rfl (Bad_fn K.b 0 _ K.c _ K.N K.cl K.bb σ s.kept.length s.n s.l _ (by rw [hI.ll]; rfl) (WH_at WH0_2) (by rw [hI.ll]; omega))) ?_
      rintro _ _ ⟨ν1, rfl, hν1, rfl⟩
      refine ⟨ro_s, ?_⟩
      refine TA.tkY 4 127 rfl rfl rfl rfl rfl (Val.lenSl rfl rfl sl22) ?_ (hro := ro_s)
      refine TA.tkY 7 255 rfl rfl rfl rfl rfl (Val.same (v' := .bool true) (Val.leq rfl rfl) (congrArg Value.bool (decide_eq_true (hKc ▸ hI.lb)))) ?_ (hro := ro_s)
      refine TA.tk 8 511 rfl rfl rfl (Val.same (v' := .bool true) (Val.pickAnd rfl rfl rfl) (rfl)) ?_ (hro := ro_s)
      refine TA.tk 9 1023 rfl rfl rfl (Val.assign rfl) ?_ (hro := ro_s)
      refine TA.done (by kernel_rfl) ?_
      refine AtX.then ?_
      refine TC.en (E' := [(4, _)]) ?_
      refine TC.r1 (hM := (fun w h => own_fin w h)) (M' := M) (fn := Try.f5) (fun _ _ h => h) rfl (RV.tmp rfl) ?_
      exact ⟨rfl, rfl⟩

end Go.Proofs.Ytphoapajlcaoeaa
/- walks -/
set_option linter.unusedVariables false
set_option linter.unusedSimpArgs false
set_option maxRecDepth 100000
set_option maxHeartbeats 4000000
namespace Go.Proofs.Ytphoapajlcaoeaa
open Go Go.X
theorem op7 {W : World} {x : List Value} (hl : x.length = 7) (h : Fits W (.fld 0 1 (.int .i64) (.fld 1 1 (.int .i64) (.fld 2 1 (.int .i64) (.fld 3 1 (.int .i64) (.fld 4 1 (.int .i64) (.fld 5 1 (.int .i64) (.fld 6 1 (.int .i64) .nil))))))) x) : ∃ o : Op7, x = o.cs := by
  obtain ⟨⟨a, ha, _⟩, ⟨b, hb, _⟩, ⟨c, hc, _⟩, ⟨d, hd, _⟩, ⟨e, he, _⟩, ⟨f, hf, _⟩, ⟨g, hg, _⟩, _⟩ := h
  match x, hl with
  | [x0, x1, x2, x3, x4, x5, x6], _ =>
    simp at ha hb hc hd he hf hg
    subst ha hb hc hd he hf hg
    exact ⟨⟨a, b, c, d, e, f, g⟩, rfl⟩
theorem op7s {W : World} : ∀ {xs : List (List Value)}, (∀ x ∈ xs, x.length = 7 ∧ Fits W (.fld 0 1 (.int .i64) (.fld 1 1 (.int .i64) (.fld 2 1 (.int .i64) (.fld 3 1 (.int .i64) (.fld 4 1 (.int .i64) (.fld 5 1 (.int .i64) (.fld 6 1 (.int .i64) .nil))))))) x) → ∃ ops : List Op7, xs = ops.map Op7.cs
  | [], _ => ⟨[], rfl⟩
  | x :: xs, h => by
    obtain ⟨o, rfl⟩ := op7 (h x (List.mem_cons_self ..)).1 (h x (List.mem_cons_self ..)).2
    obtain ⟨os, rfl⟩ := op7s fun y hy => h y (List.mem_cons_of_mem _ hy)
    exact ⟨o :: os, rfl⟩

end Go.Proofs.Ytphoapajlcaoeaa
