/- Texts put together: A61, A62, A63, A64, A65, A18, A12. -/
import Derived.Test.YtphoapajlcaoeaaW3
import Derived.Test.YtphoapajlcaoeaaG2
import Derived.Test.YtphoapajlcaoeaaG1
import Derived.Test.YtphoapajlcaoeaaW2
/- walks -/
set_option linter.unusedVariables false
set_option linter.unusedSimpArgs false
set_option maxRecDepth 100000
set_option maxHeartbeats 4000000
namespace Go.Proofs.Ytphoapajlcaoeaa
open Go Go.X
theorem get_app3 {L H : Hp} {j : Nat} {x a b c : Nat × Obj} (h : H[j]? = some x) : (a :: b :: c :: (L ++ H))[L.length + j + 3]? = some x := get_app h
theorem set_app3 {L H : Hp} {j : Nat} {y a b c : Nat × Obj} : (a :: b :: c :: (L ++ H)).set (L.length + j + 3) y = a :: b :: c :: (L ++ H.set j y) := by
  show a :: b :: c :: ((L ++ H).set (L.length + j) y) = _
  rw [set_app]
/-- (*quorumite/quorumiteref22.World).Sample -/
theorem rSample_out (b i : Nat) (c : Cf) (A : Option Addr) (nl cl bb : Nat) (σ : Sl) (nk N : Nat) (H : Hp) (hi : H[i]? = some (rwo b c A nl cl bb N σ nk)) (hN : c.n = (N : Nat)) (k : Int) (hk : k < 0 ∨ (N : Int) ≤ k) (me e v : Int) : FnC Try.prog 19 #[.pointer (some ⟨b, 0, none⟩), .int .i64 k, .int .i64 me, .int .i64 e, .int .i64 v] H (fun v M' => v = .tuple #[.string (ofL []), .int .i64 3] ∧ H = M') := by
  refine FnC.intro Try.func19 rfl 124 rfl (by simp) (fun z => ?_)
  refine TC.env (E' := [(0, _), (1, _), (2, _), (3, _), (4, _)]) (Sub.cons rfl (Sub.cons rfl (Sub.cons rfl (Sub.cons rfl (Sub.cons rfl (Sub.nil _)))))) ?_
  refine TC.sr ?_
  refine TL.v (Val.assign rfl) ?_
  refine TL.v (Val.assign rfl) ?_
  refine TL.nt ?_
  refine TC.seq ?_
  refine TC.sr ?_
  refine TL.v (Val.move rfl) ?_
  refine TL.v (Val.lss rfl rfl) ?_
  refine TL.v (Val.move rfl) ?_
  refine TL.gen (fun g1 hg1 => ?_)
  refine TL.gv rfl rfl rfl (fun hg => by subst hg; exact (Val.move rfl)) ?_
  refine TL.gv rfl rfl rfl (fun hg => by subst hg; exact (Val.move rfl)) ?_
  refine TL.gv rfl rfl rfl (fun hg => by subst hg; exact (Val.nilCheck rfl)) ?_
  refine TL.gv rfl rfl rfl (fun hg => by subst hg; exact (Val.fieldAddr rfl fl105_0 sz26 rfl)) ?_
  refine TL.gv rfl rfl rfl (fun hg => by subst hg; exact (Val.fieldAddr rfl fl26_0 sz3 rfl)) ?_
  refine TL.gv rfl rfl rfl (fun hg => by subst hg; exact (Val.load i rfl ag3 hi rfl)) ?_
  refine TL.gv rfl rfl rfl (fun hg => by subst hg; exact (Val.geq rfl rfl)) ?_
  refine TL.v (Val.pickOr rfl rfl rfl) ?_
  refine TL.nt ?_
  refine TC.en (E' := [(0, _), (1, _), (2, _), (3, _), (4, _), (10, _), (11, _), (26, _)]) ?_
  refine TC.cond rfl (fun c1 => ?_) (fun c1 => ?_)
  · skip
    refine TC.sr ?_
    refine TL.v (Val.assign rfl) ?_
    refine TL.v (Val.assign rfl) ?_
    refine TL.nt ?_
    refine TC.r2 (M' := H) (fn := Try.f19) (fun _ _ h => h) rfl (RV.tmp rfl) (RV.tmp rfl) ?_
    exact ⟨rfl, rfl⟩
  · skip
    (exfalso; grind)

/-- (*quorumite/quorumiteref22.World).Sample -/
theorem rSample_arg (b bl cl bb : Nat) (c : Cf) (σ : Sl) (kept : List Smp) (l : List Bool) (ps spl : List Value) (jb jl js : Nat) (H0 : Hp) (hN : c.n = (l.length : Nat)) (hb : H0[jb]? = some (bb, row 4 (l.map Value.bool))) (hl : H0[jl]? = some (bl, row 106 (ps ++ spl))) (hpl : ps.length = l.length) (sb k : Nat) (s g q : Int) (hp : ps[k]? = some (.pointer (some ⟨sb, 0, none⟩))) (hs : H0[js]? = some (rsO sb s (k : Nat) g q)) (hq : 0 ≤ q ∧ q ≤ 1099511627776) (hok : slOk σ 4 kept.length (kept.flatMap Smp.cs)) (hkl : kept.length ≤ 1000) (me e v : Int) (hm : mayM ⟨1, (k : Nat), g, q + 1, e, v, me⟩ = false) : FnC Try.prog 19 #[.pointer (some ⟨b, 0, none⟩), .int .i64 ((k : Nat) : Int), .int .i64 me, .int .i64 e, .int .i64 v] (rwo b c (some ⟨bl, 0, none⟩) ps.length cl bb l.length σ kept.length :: (slH σ 100 (kept.flatMap Smp.cs) ++ H0)) (fun u M' => u = .tuple #[.string (ofL []), .int .i64 1] ∧ (rwo b c (some ⟨bl, 0, none⟩) ps.length cl bb l.length σ kept.length :: (slH σ 100 (kept.flatMap Smp.cs) ++ H0)) = M') := by
  have hk2 : k < ps.length := (List.getElem?_eq_some_iff.1 hp).1
  have hRl := rd_row0 hl
  have hRb := rd_rowA hb
  have hRk : RdS (slH σ 100 (kept.flatMap Smp.cs) ++ H0) (slA σ) (kept.flatMap Smp.cs) := rdS_opt hok
  refine FnC.intro Try.func19 rfl 124 rfl (by simp) (fun z => ?_)
  refine TC.env (E' := [(0, _), (1, _), (2, _), (3, _), (4, _)]) (Sub.cons rfl (Sub.cons rfl (Sub.cons rfl (Sub.cons rfl (Sub.cons rfl (Sub.nil _)))))) ?_
  refine TC.sr ?_
  refine TL.v (Val.assign rfl) ?_
  refine TL.v (Val.assign rfl) ?_
  refine TL.nt ?_
  refine TC.seq ?_
  refine TC.sr ?_
  refine TL.v (Val.move rfl) ?_
  refine TL.v (Val.lss rfl rfl) ?_
  refine TL.v (Val.move rfl) ?_
  refine TL.gen (fun g1 hg1 => ?_)
  refine TL.gv rfl rfl rfl (fun hg => by subst hg; exact (Val.move rfl)) ?_
  refine TL.gv rfl rfl rfl (fun hg => by subst hg; exact (Val.move rfl)) ?_
  refine TL.gv rfl rfl rfl (fun hg => by subst hg; exact (Val.nilCheck rfl)) ?_
  refine TL.gv rfl rfl rfl (fun hg => by subst hg; exact (Val.fieldAddr rfl fl105_0 sz26 rfl)) ?_
  refine TL.gv rfl rfl rfl (fun hg => by subst hg; exact (Val.fieldAddr rfl fl26_0 sz3 rfl)) ?_
  refine TL.gv rfl rfl rfl (fun hg => by subst hg; exact (Val.load 0 rfl ag3 rfl rfl)) ?_
  refine TL.gv rfl rfl rfl (fun hg => by subst hg; exact (Val.geq rfl rfl)) ?_
  refine TL.v (Val.pickOr rfl rfl rfl) ?_
  refine TL.nt ?_
  refine TC.en (E' := [(0, _), (1, _), (2, _), (3, _), (4, _), (10, _), (11, _), (26, _)]) ?_
  refine TC.cond rfl (fun c1 => ?_) (fun c1 => ?_)
  · skip
    (exfalso; grind)
  · skip
    refine TC.skip ?_
    refine AtX.then ?_
    refine TC.seq ?_
    refine TC.drawLM mixed 28 ?_
    refine TA.tk 0 1 rfl rfl rfl (Val.move rfl) ?_ (hro := ro_s)
    refine TA.tk 1 3 rfl rfl rfl (Val.move rfl) ?_ (hro := ro_s)
    refine TA.tk 2 7 rfl rfl rfl (Val.nilCheck rfl) ?_ (hro := ro_s)
    refine TA.tk 3 15 rfl rfl rfl (Val.fieldAddr rfl fl105_1 sz103 rfl) ?_ (hro := ro_s)
    refine TA.tk 4 31 rfl rfl rfl (Val.load 0 rfl ag103 rfl rfl) ?_ (hro := ro_s)
    refine TA.tk 5 63 rfl rfl rfl (Val.move rfl) ?_ (hro := ro_s)
    refine TA.tk 6 127 rfl rfl rfl (Val.indexAddr (i := k) (r := k) rfl rfl sl103 sz106 rfl hk2 (by omega)) ?_ (hro := ro_s)
    refine TA.tk 7 255 rfl rfl rfl (Val.loadRd (o := 0) (j := k) rfl ag106 (Rd.cons _ (Rd.app _ hRl)) (by omega) hp) ?_ (hro := ro_s)
    refine TA.tk 8 511 rfl rfl rfl (Val.nilCheck rfl) ?_ (hro := ro_s)
    refine TA.tk 9 1023 rfl rfl rfl (Val.fieldAddr rfl fl109_2 sz3 rfl) ?_ (hro := ro_s)
    refine TA.tk 10 2047 rfl rfl rfl (Val.load _ rfl ag3 (get_app1 hs) rfl) ?_ (hro := ro_s)
    refine TA.tk 11 4095 rfl rfl rfl (Val.move rfl) ?_ (hro := ro_s)
    refine TA.tk 12 8191 rfl rfl rfl (Val.nilCheck rfl) ?_ (hro := ro_s)
    refine TA.tk 13 16383 rfl rfl rfl (Val.fieldAddr rfl fl105_1 sz103 rfl) ?_ (hro := ro_s)
    refine TA.tk 14 32767 rfl rfl rfl (Val.load 0 rfl ag103 rfl rfl) ?_ (hro := ro_s)
    refine TA.tk 15 65535 rfl rfl rfl (Val.move rfl) ?_ (hro := ro_s)
    refine TA.tk 16 131071 rfl rfl rfl (Val.indexAddr (i := k) (r := k) rfl rfl sl103 sz106 rfl hk2 (by omega)) ?_ (hro := ro_s)
    refine TA.tk 17 262143 rfl rfl rfl (Val.loadRd (o := 0) (j := k) rfl ag106 (Rd.cons _ (Rd.app _ hRl)) (by omega) hp) ?_ (hro := ro_s)
    refine TA.tk 18 524287 rfl rfl rfl (Val.nilCheck rfl) ?_ (hro := ro_s)
    refine TA.tk 19 1048575 rfl rfl rfl (Val.fieldAddr rfl fl109_3 sz2 rfl) ?_ (hro := ro_s)
    refine TA.tk 20 2097151 rfl rfl rfl (Val.load _ rfl ag2 (get_app1 hs) rfl) ?_ (hro := ro_s)
    refine TA.tk 21 4194303 rfl rfl rfl (Val.add rfl rfl (r := q + 1) (w_i64 (by omega) (by omega))) ?_ (hro := ro_s)
    refine TA.tk 22 8388607 rfl rfl rfl (Val.move rfl) ?_ (hro := ro_s)
    refine TA.tk 23 16777215 rfl rfl rfl (Val.move rfl) ?_ (hro := ro_s)
    refine TA.tk 24 33554431 rfl rfl rfl (Val.move rfl) ?_ (hro := ro_s)
    refine TA.tk 25 67108863 rfl rfl rfl (Val.buildS pl61 ze61 rfl rfl) ?_ (hro := ro_s)
    refine TA.one 26 (by kernel_rfl) ?_
    refine TO.dz 134217727 (some 12) rfl rfl rfl rfl (Does.alloc ze61 rfl) ?_
    rintro _ _ ⟨bm, rfl, rfl⟩
    refine ⟨ro_s, ?_⟩
    refine TA.one 27 (by kernel_rfl) ?_
    refine TO.dz 268435455 none rfl rfl rfl rfl (Does.store (i := 0) rfl rfl rfl sz61 rfl rfl (by first | exact Nat.le_of_ble_eq_true rfl | decide | omega) rfl rfl) ?_
    rintro _ _ ⟨rfl, rfl⟩
    refine ⟨ro_s, ?_⟩
    refine TA.done (by kernel_rfl) ?_
    refine AtX.then ?_
    refine TC.en (E' := [(0, _), (1, _), (2, _), (3, _), (4, _), (10, _), (11, _), (12, _)]) ?_
    refine TC.seq ?_
    refine TC.sr ?_
    refine TL.v (Val.loadAgg 0 rfl ag61 sz61 rfl rfl rfl) ?_
    refine TL.d (Does.callF go55 rfl (refMay_fn ⟨1, (k : Nat), g, q + 1, e, v, me⟩ _)) ?_
    rintro _ _ ⟨gm, rfl, hgm, rfl⟩
    rw [hm] at hgm
    refine TL.v (Val.not rfl) ?_
    refine TL.nt ?_
    refine TC.condB rfl (fun c2 => ?_) (fun c2 => ?_)
    · skip
      refine TC.sr ?_
      refine TL.v (Val.assign rfl) ?_
      refine TL.v (Val.assign rfl) ?_
      refine TL.nt ?_
      refine TC.r2 (M' := (rwo b c (some ⟨bl, 0, none⟩) ps.length cl bb l.length σ kept.length :: (slH σ 100 (kept.flatMap Smp.cs) ++ H0))) (fn := Try.f19) (fun _ _ h => h) rfl (RV.tmp rfl) (RV.tmp rfl) ?_
      exact ⟨rfl, rfl⟩
    · skip
      (exfalso; rw [hgm] at c2; cases c2)

/-- (*quorumite/quorumiteref22.World).Sample -/
theorem rSample_bad (b bl cl bb : Nat) (c : Cf) (σ : Sl) (kept : List Smp) (l : List Bool) (ps spl : List Value) (jb jl js : Nat) (H0 : Hp) (hN : c.n = (l.length : Nat)) (hb : H0[jb]? = some (bb, row 4 (l.map Value.bool))) (hl : H0[jl]? = some (bl, row 106 (ps ++ spl))) (hpl : ps.length = l.length) (sb k : Nat) (s g q : Int) (hp : ps[k]? = some (.pointer (some ⟨sb, 0, none⟩))) (hs : H0[js]? = some (rsO sb s (k : Nat) g q)) (hq : 0 ≤ q ∧ q ≤ 1099511627776) (hok : slOk σ 4 kept.length (kept.flatMap Smp.cs)) (hkl : kept.length ≤ 1000) (me e v : Int) (hm : mayM ⟨1, (k : Nat), g, q + 1, e, v, me⟩ = true) (hx : l[k]? = some true) : FnC Try.prog 19 #[.pointer (some ⟨b, 0, none⟩), .int .i64 ((k : Nat) : Int), .int .i64 me, .int .i64 e, .int .i64 v] (rwo b c (some ⟨bl, 0, none⟩) ps.length cl bb l.length σ kept.length :: (slH σ 100 (kept.flatMap Smp.cs) ++ H0)) (fun u M' => u = .tuple #[.string (ofL (sealB (macKey s (k : Nat) g) ⟨1, (k : Nat), g, q + 1, e, v, me⟩)), .int .i64 0] ∧ M' = rwo b c (some ⟨bl, 0, none⟩) ps.length cl bb l.length σ kept.length :: (slH σ 100 (kept.flatMap Smp.cs) ++ H0.set js (rsO sb s (k : Nat) g (q + 1)))) := by
  have hk2 : k < ps.length := (List.getElem?_eq_some_iff.1 hp).1
  have hRl := rd_row0 hl
  have hRb := rd_rowA hb
  have hRk : RdS (slH σ 100 (kept.flatMap Smp.cs) ++ H0) (slA σ) (kept.flatMap Smp.cs) := rdS_opt hok
  refine FnC.intro Try.func19 rfl 124 rfl (by simp) (fun z => ?_)
  refine TC.env (E' := [(0, _), (1, _), (2, _), (3, _), (4, _)]) (Sub.cons rfl (Sub.cons rfl (Sub.cons rfl (Sub.cons rfl (Sub.cons rfl (Sub.nil _)))))) ?_
  refine TC.sr ?_
  refine TL.v (Val.assign rfl) ?_
  refine TL.v (Val.assign rfl) ?_
  refine TL.nt ?_
  refine TC.seq ?_
  refine TC.sr ?_
  refine TL.v (Val.move rfl) ?_
  refine TL.v (Val.lss rfl rfl) ?_
  refine TL.v (Val.move rfl) ?_
  refine TL.gen (fun g1 hg1 => ?_)
  refine TL.gv rfl rfl rfl (fun hg => by subst hg; exact (Val.move rfl)) ?_
  refine TL.gv rfl rfl rfl (fun hg => by subst hg; exact (Val.move rfl)) ?_
  refine TL.gv rfl rfl rfl (fun hg => by subst hg; exact (Val.nilCheck rfl)) ?_
  refine TL.gv rfl rfl rfl (fun hg => by subst hg; exact (Val.fieldAddr rfl fl105_0 sz26 rfl)) ?_
  refine TL.gv rfl rfl rfl (fun hg => by subst hg; exact (Val.fieldAddr rfl fl26_0 sz3 rfl)) ?_
  refine TL.gv rfl rfl rfl (fun hg => by subst hg; exact (Val.load 0 rfl ag3 rfl rfl)) ?_
  refine TL.gv rfl rfl rfl (fun hg => by subst hg; exact (Val.geq rfl rfl)) ?_
  refine TL.v (Val.pickOr rfl rfl rfl) ?_
  refine TL.nt ?_
  refine TC.en (E' := [(0, _), (1, _), (2, _), (3, _), (4, _), (10, _), (11, _), (26, _)]) ?_
  refine TC.cond rfl (fun c1 => ?_) (fun c1 => ?_)
  · skip
    (exfalso; grind)
  · skip
    refine TC.skip ?_
    refine AtX.then ?_
    refine TC.seq ?_
    refine TC.drawLM mixed 28 ?_
    refine TA.tk 0 1 rfl rfl rfl (Val.move rfl) ?_ (hro := ro_s)
    refine TA.tk 1 3 rfl rfl rfl (Val.move rfl) ?_ (hro := ro_s)
    refine TA.tk 2 7 rfl rfl rfl (Val.nilCheck rfl) ?_ (hro := ro_s)
    refine TA.tk 3 15 rfl rfl rfl (Val.fieldAddr rfl fl105_1 sz103 rfl) ?_ (hro := ro_s)
    refine TA.tk 4 31 rfl rfl rfl (Val.load 0 rfl ag103 rfl rfl) ?_ (hro := ro_s)
    refine TA.tk 5 63 rfl rfl rfl (Val.move rfl) ?_ (hro := ro_s)
    refine TA.tk 6 127 rfl rfl rfl (Val.indexAddr (i := k) (r := k) rfl rfl sl103 sz106 rfl hk2 (by omega)) ?_ (hro := ro_s)
    refine TA.tk 7 255 rfl rfl rfl (Val.loadRd (o := 0) (j := k) rfl ag106 (Rd.cons _ (Rd.app _ hRl)) (by omega) hp) ?_ (hro := ro_s)
    refine TA.tk 8 511 rfl rfl rfl (Val.nilCheck rfl) ?_ (hro := ro_s)
    refine TA.tk 9 1023 rfl rfl rfl (Val.fieldAddr rfl fl109_2 sz3 rfl) ?_ (hro := ro_s)
    refine TA.tk 10 2047 rfl rfl rfl (Val.load _ rfl ag3 (get_app1 hs) rfl) ?_ (hro := ro_s)
    refine TA.tk 11 4095 rfl rfl rfl (Val.move rfl) ?_ (hro := ro_s)
    refine TA.tk 12 8191 rfl rfl rfl (Val.nilCheck rfl) ?_ (hro := ro_s)
    refine TA.tk 13 16383 rfl rfl rfl (Val.fieldAddr rfl fl105_1 sz103 rfl) ?_ (hro := ro_s)
    refine TA.tk 14 32767 rfl rfl rfl (Val.load 0 rfl ag103 rfl rfl) ?_ (hro := ro_s)
    refine TA.tk 15 65535 rfl rfl rfl (Val.move rfl) ?_ (hro := ro_s)
    refine TA.tk 16 131071 rfl rfl rfl (Val.indexAddr (i := k) (r := k) rfl rfl sl103 sz106 rfl hk2 (by omega)) ?_ (hro := ro_s)
    refine TA.tk 17 262143 rfl rfl rfl (Val.loadRd (o := 0) (j := k) rfl ag106 (Rd.cons _ (Rd.app _ hRl)) (by omega) hp) ?_ (hro := ro_s)
    refine TA.tk 18 524287 rfl rfl rfl (Val.nilCheck rfl) ?_ (hro := ro_s)
    refine TA.tk 19 1048575 rfl rfl rfl (Val.fieldAddr rfl fl109_3 sz2 rfl) ?_ (hro := ro_s)
    refine TA.tk 20 2097151 rfl rfl rfl (Val.load _ rfl ag2 (get_app1 hs) rfl) ?_ (hro := ro_s)
    refine TA.tk 21 4194303 rfl rfl rfl (Val.add rfl rfl (r := q + 1) (w_i64 (by omega) (by omega))) ?_ (hro := ro_s)
    refine TA.tk 22 8388607 rfl rfl rfl (Val.move rfl) ?_ (hro := ro_s)
    refine TA.tk 23 16777215 rfl rfl rfl (Val.move rfl) ?_ (hro := ro_s)
    refine TA.tk 24 33554431 rfl rfl rfl (Val.move rfl) ?_ (hro := ro_s)
    refine TA.tk 25 67108863 rfl rfl rfl (Val.buildS pl61 ze61 rfl rfl) ?_ (hro := ro_s)
    refine TA.one 26 (by kernel_rfl) ?_
    refine TO.dz 134217727 (some 12) rfl rfl rfl rfl (Does.alloc ze61 rfl) ?_
    rintro _ _ ⟨bm, rfl, rfl⟩
    refine ⟨ro_s, ?_⟩
    refine TA.one 27 (by kernel_rfl) ?_
    refine TO.dz 268435455 none rfl rfl rfl rfl (Does.store (i := 0) rfl rfl rfl sz61 rfl rfl (by first | exact Nat.le_of_ble_eq_true rfl | decide | omega) rfl rfl) ?_
    rintro _ _ ⟨rfl, rfl⟩
    refine ⟨ro_s, ?_⟩
    refine TA.done (by kernel_rfl) ?_
    refine AtX.then ?_
    refine TC.en (E' := [(0, _), (1, _), (2, _), (3, _), (4, _), (10, _), (11, _), (12, _)]) ?_
    refine TC.seq ?_
    refine TC.sr ?_
    refine TL.v (Val.loadAgg 0 rfl ag61 sz61 rfl rfl rfl) ?_
    refine TL.d (Does.callF go55 rfl (refMay_fn ⟨1, (k : Nat), g, q + 1, e, v, me⟩ _)) ?_
    rintro _ _ ⟨gm, rfl, hgm, rfl⟩
    rw [hm] at hgm
    refine TL.v (Val.not rfl) ?_
    refine TL.nt ?_
    refine TC.condB rfl (fun c2 => ?_) (fun c2 => ?_)
    · skip
      (exfalso; rw [hgm] at c2; cases c2)
    · skip
      refine TC.skip ?_
      refine AtX.then ?_
      refine TC.sr ?_
      refine TL.v (Val.move rfl) ?_
      refine TL.v (Val.move rfl) ?_
      refine TL.v (Val.move rfl) ?_
      refine TL.v (Val.move rfl) ?_
      refine TL.v (Val.buildS pl100 ze100 rfl rfl) ?_
      refine TL.d (Does.alloc ze100 rfl) ?_
      rintro _ _ ⟨bs, rfl, rfl⟩
      refine TL.d (Does.store (i := 0) rfl rfl rfl sz100 rfl rfl (by first | exact Nat.le_of_ble_eq_true rfl | decide | omega) rfl rfl) ?_
      rintro _ _ ⟨rfl, rfl⟩
      refine TL.nt ?_
      refine TC.en (E' := [(0, _), (1, _), (2, _), (3, _), (4, _), (10, _), (11, _), (13, _)]) ?_
      refine TC.seq ?_
      refine TC.sr ?_
      refine TL.v (Val.move rfl) ?_
      refine TL.v (Val.nilCheck rfl) ?_
      refine TL.v (Val.fieldAddr rfl fl105_2 sz85 rfl) ?_
      refine TL.v (Val.load 2 rfl ag85 rfl rfl) ?_
      refine TL.v (Val.move rfl) ?_
      refine TL.v (Val.indexAddr (i := k) (r := k) rfl rfl sl85 sz4 rfl (by omega) (by omega)) ?_
      refine TL.v (Val.loadRd (o := 0) (j := k) (v := .bool true) rfl ag4 (Rd.cons _ (Rd.cons _ (Rd.cons _ (Rd.app _ hRb)))) (by omega) (map_get hx)) ?_
      refine TL.v (Val.not rfl) ?_
      refine TL.nt ?_
      refine TC.condB rfl (fun c3 => ?_) (fun c3 => ?_)
      · skip
        (exfalso; simp at c3)
      · skip
        refine TC.en (E' := [(0, _), (1, _), (2, _), (3, _), (4, _), (10, _), (11, _)]) ?_
        refine TC.skip ?_
        refine AtX.then ?_
        refine TC.sr ?_
        refine TL.v (Val.move rfl) ?_
        refine TL.v (Val.nilCheck rfl) ?_
        refine TL.v (Val.fieldAddr rfl fl105_1 sz103 rfl) ?_
        refine TL.v (Val.load 2 rfl ag103 rfl rfl) ?_
        refine TL.v (Val.move rfl) ?_
        refine TL.v (Val.indexAddr (i := k) (r := k) rfl rfl sl103 sz106 rfl hk2 (by omega)) ?_
        refine TL.v (Val.loadRd (o := 0) (j := k) rfl ag106 (Rd.cons _ (Rd.cons _ (Rd.cons _ (Rd.app _ hRl)))) (by omega) hp) ?_
        refine TL.v (Val.move rfl) ?_
        refine TL.v (Val.move rfl) ?_
        refine TL.v (Val.move rfl) ?_
        refine TL.d (Does.callF go56 rfl (refSS_yes sb _ s (k : Nat) g q _ (get_app3 hs) hq me e v hm)) ?_
        rintro _ _ ⟨rfl, rfl⟩
        refine TL.v (Val.extract rfl rfl) ?_
        refine TL.v (Val.extract rfl rfl) ?_
        refine TL.v (Val.assign rfl) ?_
        refine TL.v (Val.assign rfl) ?_
        refine TL.nt ?_
        refine TC.en (E' := [(10, _), (11, _)]) ?_
        refine TC.r2 (hM := (fun w h => by rw [set_app3] at h; exact h.drop.drop)) (M' := rwo b c (some ⟨bl, 0, none⟩) ps.length cl bb l.length σ kept.length :: (slH σ 100 (kept.flatMap Smp.cs) ++ H0.set js (rsO sb s (k : Nat) g (q + 1)))) (fn := Try.f19) (fun _ _ h => h) rfl (RV.tmp rfl) (RV.tmp rfl) ?_
        exact ⟨rfl, rfl⟩

/-- (*quorumite/quorumiteref22.World).Sample -/
theorem rSample_twice (b bl cl bb : Nat) (c : Cf) (σ : Sl) (kept : List Smp) (l : List Bool) (ps spl : List Value) (jb jl js : Nat) (H0 : Hp) (hN : c.n = (l.length : Nat)) (hb : H0[jb]? = some (bb, row 4 (l.map Value.bool))) (hl : H0[jl]? = some (bl, row 106 (ps ++ spl))) (hpl : ps.length = l.length) (sb k : Nat) (s g q : Int) (hp : ps[k]? = some (.pointer (some ⟨sb, 0, none⟩))) (hs : H0[js]? = some (rsO sb s (k : Nat) g q)) (hq : 0 ≤ q ∧ q ≤ 1099511627776) (hok : slOk σ 4 kept.length (kept.flatMap Smp.cs)) (hkl : kept.length ≤ 1000) (me e v : Int) (hm : mayM ⟨1, (k : Nat), g, q + 1, e, v, me⟩ = true) (hx : l[k]? = some false) (hno : kept.any (fun x => sameS x (k : Nat) me e) = true) : FnC Try.prog 19 #[.pointer (some ⟨b, 0, none⟩), .int .i64 ((k : Nat) : Int), .int .i64 me, .int .i64 e, .int .i64 v] (rwo b c (some ⟨bl, 0, none⟩) ps.length cl bb l.length σ kept.length :: (slH σ 100 (kept.flatMap Smp.cs) ++ H0)) (fun u M' => u = .tuple #[.string (ofL []), .int .i64 8] ∧ (rwo b c (some ⟨bl, 0, none⟩) ps.length cl bb l.length σ kept.length :: (slH σ 100 (kept.flatMap Smp.cs) ++ H0)) = M') := by
  have hk2 : k < ps.length := (List.getElem?_eq_some_iff.1 hp).1
  have hRl := rd_row0 hl
  have hRb := rd_rowA hb
  have hRk : RdS (slH σ 100 (kept.flatMap Smp.cs) ++ H0) (slA σ) (kept.flatMap Smp.cs) := rdS_opt hok
  refine FnC.intro Try.func19 rfl 124 rfl (by simp) (fun z => ?_)
  refine TC.env (E' := [(0, _), (1, _), (2, _), (3, _), (4, _)]) (Sub.cons rfl (Sub.cons rfl (Sub.cons rfl (Sub.cons rfl (Sub.cons rfl (Sub.nil _)))))) ?_
  refine TC.sr ?_
  refine TL.v (Val.assign rfl) ?_
  refine TL.v (Val.assign rfl) ?_
  refine TL.nt ?_
  refine TC.seq ?_
  refine TC.sr ?_
  refine TL.v (Val.move rfl) ?_
  refine TL.v (Val.lss rfl rfl) ?_
  refine TL.v (Val.move rfl) ?_
  refine TL.gen (fun g1 hg1 => ?_)
  refine TL.gv rfl rfl rfl (fun hg => by subst hg; exact (Val.move rfl)) ?_
  refine TL.gv rfl rfl rfl (fun hg => by subst hg; exact (Val.move rfl)) ?_
  refine TL.gv rfl rfl rfl (fun hg => by subst hg; exact (Val.nilCheck rfl)) ?_
  refine TL.gv rfl rfl rfl (fun hg => by subst hg; exact (Val.fieldAddr rfl fl105_0 sz26 rfl)) ?_
  refine TL.gv rfl rfl rfl (fun hg => by subst hg; exact (Val.fieldAddr rfl fl26_0 sz3 rfl)) ?_
  refine TL.gv rfl rfl rfl (fun hg => by subst hg; exact (Val.load 0 rfl ag3 rfl rfl)) ?_
  refine TL.gv rfl rfl rfl (fun hg => by subst hg; exact (Val.geq rfl rfl)) ?_
  refine TL.v (Val.pickOr rfl rfl rfl) ?_
  refine TL.nt ?_
  refine TC.en (E' := [(0, _), (1, _), (2, _), (3, _), (4, _), (10, _), (11, _), (26, _)]) ?_
  refine TC.cond rfl (fun c1 => ?_) (fun c1 => ?_)
  · skip
    (exfalso; grind)
  · skip
    refine TC.skip ?_
    refine AtX.then ?_
    refine TC.seq ?_
    refine TC.drawLM mixed 28 ?_
    refine TA.tk 0 1 rfl rfl rfl (Val.move rfl) ?_ (hro := ro_s)
    refine TA.tk 1 3 rfl rfl rfl (Val.move rfl) ?_ (hro := ro_s)
    refine TA.tk 2 7 rfl rfl rfl (Val.nilCheck rfl) ?_ (hro := ro_s)
    refine TA.tk 3 15 rfl rfl rfl (Val.fieldAddr rfl fl105_1 sz103 rfl) ?_ (hro := ro_s)
    refine TA.tk 4 31 rfl rfl rfl (Val.load 0 rfl ag103 rfl rfl) ?_ (hro := ro_s)
    refine TA.tk 5 63 rfl rfl rfl (Val.move rfl) ?_ (hro := ro_s)
    refine TA.tk 6 127 rfl rfl rfl (Val.indexAddr (i := k) (r := k) rfl rfl sl103 sz106 rfl hk2 (by omega)) ?_ (hro := ro_s)
    refine TA.tk 7 255 rfl rfl rfl (Val.loadRd (o := 0) (j := k) rfl ag106 (Rd.cons _ (Rd.app _ hRl)) (by omega) hp) ?_ (hro := ro_s)
    refine TA.tk 8 511 rfl rfl rfl (Val.nilCheck rfl) ?_ (hro := ro_s)
    refine TA.tk 9 1023 rfl rfl rfl (Val.fieldAddr rfl fl109_2 sz3 rfl) ?_ (hro := ro_s)
    refine TA.tk 10 2047 rfl rfl rfl (Val.load _ rfl ag3 (get_app1 hs) rfl) ?_ (hro := ro_s)
    refine TA.tk 11 4095 rfl rfl rfl (Val.move rfl) ?_ (hro := ro_s)
    refine TA.tk 12 8191 rfl rfl rfl (Val.nilCheck rfl) ?_ (hro := ro_s)
    refine TA.tk 13 16383 rfl rfl rfl (Val.fieldAddr rfl fl105_1 sz103 rfl) ?_ (hro := ro_s)
    refine TA.tk 14 32767 rfl rfl rfl (Val.load 0 rfl ag103 rfl rfl) ?_ (hro := ro_s)
    refine TA.tk 15 65535 rfl rfl rfl (Val.move rfl) ?_ (hro := ro_s)
    refine TA.tk 16 131071 rfl rfl rfl (Val.indexAddr (i := k) (r := k) rfl rfl sl103 sz106 rfl hk2 (by omega)) ?_ (hro := ro_s)
    refine TA.tk 17 262143 rfl rfl rfl (Val.loadRd (o := 0) (j := k) rfl ag106 (Rd.cons _ (Rd.app _ hRl)) (by omega) hp) ?_ (hro := ro_s)
    refine TA.tk 18 524287 rfl rfl rfl (Val.nilCheck rfl) ?_ (hro := ro_s)
    refine TA.tk 19 1048575 rfl rfl rfl (Val.fieldAddr rfl fl109_3 sz2 rfl) ?_ (hro := ro_s)
    refine TA.tk 20 2097151 rfl rfl rfl (Val.load _ rfl ag2 (get_app1 hs) rfl) ?_ (hro := ro_s)
    refine TA.tk 21 4194303 rfl rfl rfl (Val.add rfl rfl (r := q + 1) (w_i64 (by omega) (by omega))) ?_ (hro := ro_s)
    refine TA.tk 22 8388607 rfl rfl rfl (Val.move rfl) ?_ (hro := ro_s)
    refine TA.tk 23 16777215 rfl rfl rfl (Val.move rfl) ?_ (hro := ro_s)
    refine TA.tk 24 33554431 rfl rfl rfl (Val.move rfl) ?_ (hro := ro_s)
    refine TA.tk 25 67108863 rfl rfl rfl (Val.buildS pl61 ze61 rfl rfl) ?_ (hro := ro_s)
    refine TA.one 26 (by kernel_rfl) ?_
    refine TO.dz 134217727 (some 12) rfl rfl rfl rfl (Does.alloc ze61 rfl) ?_
    rintro _ _ ⟨bm, rfl, rfl⟩
    refine ⟨ro_s, ?_⟩
    refine TA.one 27 (by kernel_rfl) ?_
    refine TO.dz 268435455 none rfl rfl rfl rfl (Does.store (i := 0) rfl rfl rfl sz61 rfl rfl (by first | exact Nat.le_of_ble_eq_true rfl | decide | omega) rfl rfl) ?_
    rintro _ _ ⟨rfl, rfl⟩
    refine ⟨ro_s, ?_⟩
    refine TA.done (by kernel_rfl) ?_
    refine AtX.then ?_
    refine TC.en (E' := [(0, _), (1, _), (2, _), (3, _), (4, _), (10, _), (11, _), (12, _)]) ?_
    refine TC.seq ?_
    refine TC.sr ?_
    refine TL.v (Val.loadAgg 0 rfl ag61 sz61 rfl rfl rfl) ?_
    refine TL.d (Does.callF go55 rfl (refMay_fn ⟨1, (k : Nat), g, q + 1, e, v, me⟩ _)) ?_
    rintro _ _ ⟨gm, rfl, hgm, rfl⟩
    rw [hm] at hgm
    refine TL.v (Val.not rfl) ?_
    refine TL.nt ?_
    refine TC.condB rfl (fun c2 => ?_) (fun c2 => ?_)
    · skip
      (exfalso; rw [hgm] at c2; cases c2)
    · skip
      refine TC.skip ?_
      refine AtX.then ?_
      refine TC.sr ?_
      refine TL.v (Val.move rfl) ?_
      refine TL.v (Val.move rfl) ?_
      refine TL.v (Val.move rfl) ?_
      refine TL.v (Val.move rfl) ?_
      refine TL.v (Val.buildS pl100 ze100 rfl rfl) ?_
      refine TL.d (Does.alloc ze100 rfl) ?_
      rintro _ _ ⟨bs, rfl, rfl⟩
      refine TL.d (Does.store (i := 0) rfl rfl rfl sz100 rfl rfl (by first | exact Nat.le_of_ble_eq_true rfl | decide | omega) rfl rfl) ?_
      rintro _ _ ⟨rfl, rfl⟩
      refine TL.nt ?_
      refine TC.en (E' := [(0, _), (1, _), (2, _), (3, _), (4, _), (10, _), (11, _), (13, _)]) ?_
      refine TC.seq ?_
      refine TC.sr ?_
      refine TL.v (Val.move rfl) ?_
      refine TL.v (Val.nilCheck rfl) ?_
      refine TL.v (Val.fieldAddr rfl fl105_2 sz85 rfl) ?_
      refine TL.v (Val.load 2 rfl ag85 rfl rfl) ?_
      refine TL.v (Val.move rfl) ?_
      refine TL.v (Val.indexAddr (i := k) (r := k) rfl rfl sl85 sz4 rfl (by omega) (by omega)) ?_
      refine TL.v (Val.loadRd (o := 0) (j := k) (v := .bool false) rfl ag4 (Rd.cons _ (Rd.cons _ (Rd.cons _ (Rd.app _ hRb)))) (by omega) (map_get hx)) ?_
      refine TL.v (Val.not rfl) ?_
      refine TL.nt ?_
      refine TC.condB rfl (fun c3 => ?_) (fun c3 => ?_)
      · skip
        refine TC.en (E' := [(0, _), (1, _), (2, _), (3, _), (4, _), (10, _), (11, _), (13, _)]) ?_
        refine TC.seq ?_
        refine TC.sr ?_
        refine TL.v (Val.assign rfl) ?_
        refine TL.nt ?_
        refine TC.block ?_
        refine TC.loop (ι := Nat) (fun j => [(0, .pointer (some ⟨b, 0, none⟩)), (1, .int .i64 ((k : Nat) : Int)), (2, .int .i64 me), (3, .int .i64 e), (4, .int .i64 v), (13, .pointer (some ⟨bs, 0, none⟩)), (14, .int .i64 (j : Nat))]) (fun _ => (bs, .cells (Smp.cs ⟨(k : Nat), me, e, v⟩).toArray 100 (0, 0)) :: (bm, .cells #[.int .i64 1, .int .i64 ((k : Nat) : Int), .int .i64 g, .int .i64 (q + 1), .int .i64 e, .int .i64 v, .int .i64 me] 61 (0, 0)) :: rwo b c (some ⟨bl, 0, none⟩) ps.length cl bb l.length σ kept.length :: (slH σ 100 (kept.flatMap Smp.cs) ++ H0)) (fun j => j ≤ kept.length ∧ ∀ x ∈ kept.take j, sameS x (k : Nat) me e = false) (fun j => kept.length - j) 0 ?_ (Sub.cons rfl (Sub.cons rfl (Sub.cons rfl (Sub.cons rfl (Sub.cons rfl (Sub.cons rfl (Sub.cons rfl (Sub.nil _)))))))) (fun _ h => h) ?_
        · exact ⟨Nat.zero_le _, by simp⟩
        rintro j ⟨hj, hI⟩
        refine TC.seq ?_
        refine TC.sr ?_
        refine TL.v (Val.move rfl) ?_
        refine TL.v (Val.move rfl) ?_
        refine TL.v (Val.nilCheck rfl) ?_
        refine TL.v (Val.fieldAddr rfl fl105_3 sz87 rfl) ?_
        refine TL.v (Val.load 2 rfl ag87 rfl rfl) ?_
        refine TL.v (Val.lenSl rfl rfl sl87) ?_
        refine TL.v (Val.lss rfl rfl) ?_
        refine TL.nt ?_
        refine TC.condP rfl (fun c4 => ?_) (fun c4 => ?_)
        · skip
          refine TC.skip ?_
          refine AtX.then ?_
          refine TC.seq ?_
          refine TC.block ?_
          refine TC.seq ?_
          have hlt : j < kept.length := by omega
          obtain ⟨x, hx2⟩ : ∃ x, kept[j]? = some x := ⟨_, List.getElem?_eq_getElem hlt⟩
          have hAk : ∃ bA oA : Nat, slA σ = some ⟨bA, oA, none⟩ ∧ Rd (slH σ 100 (kept.flatMap Smp.cs) ++ H0) ⟨bA, oA, none⟩ (kept.flatMap Smp.cs) := RdS.get hRk (by rw [flat_len Smp.cs_len]; omega)
          obtain ⟨bA, oA, hAe, hRj⟩ := hAk
          refine TC.region ?_
          refine TL.v (Val.move rfl) ?_
          refine TL.v (Val.nilCheck rfl) ?_
          refine TL.v (Val.fieldAddr rfl fl105_3 sz87 rfl) ?_
          refine TL.v (Val.load 2 rfl ag87 rfl rfl) ?_
          rw [hAe]
          refine TL.v (Val.move rfl) ?_
          refine TL.v (Val.indexAddr (i := j) (r := oA + 4 * j) rfl rfl sl87 sz100 rfl hlt (by omega)) ?_
          refine TL.v (Val.loadAggR (o := oA) (j := 4 * j) (vs := x.cs) rfl ag100 sz100 (Rd.cons _ (Rd.cons _ (Rd.cons _ hRj))) rfl (flat_seg Smp.cs_len hx2) rfl) ?_
          refine TL.d (Does.alloc ze100 rfl) ?_
          rintro _ _ ⟨b3, rfl, rfl⟩
          refine TL.d (Does.store (i := 0) rfl rfl rfl sz100 rfl rfl (by first | exact Nat.le_of_ble_eq_true rfl | decide | omega) rfl rfl) ?_
          rintro _ _ ⟨rfl, rfl⟩
          refine TL.nt ?_
          refine TC.sr ?_
          refine TL.v (Val.fieldAddr rfl fl100_0 sz3 rfl) ?_
          refine TL.v (Val.load 0 rfl ag3 rfl rfl) ?_
          refine TL.v (Val.move rfl) ?_
          refine TL.v (Val.eqlI rfl rfl) ?_
          refine TL.v (Val.move rfl) ?_
          refine TL.gen (fun g4 hg4 => ?_)
          refine TL.gv rfl rfl rfl (fun hg => by subst hg; exact (Val.fieldAddr rfl fl100_1 sz3 rfl)) ?_
          refine TL.gv rfl rfl rfl (fun hg => by subst hg; exact (Val.load 0 rfl ag3 rfl rfl)) ?_
          refine TL.gv rfl rfl rfl (fun hg => by subst hg; exact (Val.move rfl)) ?_
          refine TL.gv rfl rfl rfl (fun hg => by subst hg; exact (Val.eqlI rfl rfl)) ?_
          refine TL.v (Val.pickAnd rfl rfl rfl) ?_
          refine TL.v (Val.move rfl) ?_
          refine TL.gen (fun g5 hg5 => ?_)
          refine TL.gv rfl rfl rfl (fun hg => by subst hg; exact (Val.fieldAddr rfl fl100_2 sz2 rfl)) ?_
          refine TL.gv rfl rfl rfl (fun hg => by subst hg; exact (Val.load 0 rfl ag2 rfl rfl)) ?_
          refine TL.gv rfl rfl rfl (fun hg => by subst hg; exact (Val.move rfl)) ?_
          refine TL.gv rfl rfl rfl (fun hg => by subst hg; exact (Val.eqlI rfl rfl)) ?_
          refine TL.v (Val.pickAnd rfl rfl rfl) ?_
          refine TL.nt ?_
          refine TC.cond rfl (fun c5 => ?_) (fun c5 => ?_)
          · skip
            refine TC.sr ?_
            refine TL.v (Val.assign rfl) ?_
            refine TL.v (Val.assign rfl) ?_
            refine TL.nt ?_
            refine TC.r2 (M' := (rwo b c (some ⟨bl, 0, none⟩) ps.length cl bb l.length σ kept.length :: (slH σ 100 (kept.flatMap Smp.cs) ++ H0))) (fn := Try.f19) (fun _ _ h => h) rfl (RV.tmp rfl) (RV.tmp rfl) ?_
            exact ⟨rfl, rfl⟩
          · skip
            refine TC.skip ?_
            refine AtX.blk ?_
            refine AtX.then ?_
            refine TC.region ?_
            refine TL.v (Val.move rfl) ?_
            refine TL.v (Val.add rfl rfl (w_i64 (by omega) (by omega))) ?_
            refine TL.v (Val.assign rfl) ?_
            refine TL.nil ?_
            refine AtX.round (j + 1) ?_ ?_ (Sub.cons rfl (Sub.cons rfl (Sub.cons rfl (Sub.cons rfl (Sub.cons rfl (Sub.cons rfl (Sub.cons rfl (Sub.nil _)))))))) ro_s
            · exact ⟨by omega, take_no (f := fun x => sameS x (k : Nat) me e) hI hx2 (by subst_vars; assumption)⟩
            · omega
        · skip
          (exfalso; have hjk : j = kept.length := (by omega); subst hjk; have h3 := any_f (f := fun x => sameS x (k : Nat) me e) hI rfl; rw [hno] at h3; exact absurd h3 (by decide))
      · skip
        (exfalso; simp at c3)

/-- (*quorumite/quorumiteref22.World).Sample -/
theorem rSample_ok (b bl cl bb : Nat) (c : Cf) (σ : Sl) (kept : List Smp) (l : List Bool) (ps spl : List Value) (jb jl js : Nat) (H0 : Hp) (hN : c.n = (l.length : Nat)) (hb : H0[jb]? = some (bb, row 4 (l.map Value.bool))) (hl : H0[jl]? = some (bl, row 106 (ps ++ spl))) (hpl : ps.length = l.length) (sb k : Nat) (s g q : Int) (hp : ps[k]? = some (.pointer (some ⟨sb, 0, none⟩))) (hs : H0[js]? = some (rsO sb s (k : Nat) g q)) (hq : 0 ≤ q ∧ q ≤ 1099511627776) (hok : slOk σ 4 kept.length (kept.flatMap Smp.cs)) (hkl : kept.length ≤ 1000) (me e v : Int) (hm : mayM ⟨1, (k : Nat), g, q + 1, e, v, me⟩ = true) (hx : l[k]? = some false) (hno : kept.any (fun x => sameS x (k : Nat) me e) = false) : FnC Try.prog 19 #[.pointer (some ⟨b, 0, none⟩), .int .i64 ((k : Nat) : Int), .int .i64 me, .int .i64 e, .int .i64 v] (rwo b c (some ⟨bl, 0, none⟩) ps.length cl bb l.length σ kept.length :: (slH σ 100 (kept.flatMap Smp.cs) ++ H0)) (fun u M' => ∃ σ', u = .tuple #[.string (ofL (sealB (macKey s (k : Nat) g) ⟨1, (k : Nat), g, q + 1, e, v, me⟩)), .int .i64 0] ∧ slOk σ' 4 (kept.length + 1) ((kept.flatMap Smp.cs) ++ Smp.cs ⟨(k : Nat), me, e, v⟩) ∧ M' = rwo b c (some ⟨bl, 0, none⟩) ps.length cl bb l.length σ' (kept.length + 1) :: (slH σ' 100 ((kept.flatMap Smp.cs) ++ Smp.cs ⟨(k : Nat), me, e, v⟩) ++ H0.set js (rsO sb s (k : Nat) g (q + 1)))) := by
  have hk2 : k < ps.length := (List.getElem?_eq_some_iff.1 hp).1
  have hRl := rd_row0 hl
  have hRb := rd_rowA hb
  have hRk : RdS (slH σ 100 (kept.flatMap Smp.cs) ++ H0) (slA σ) (kept.flatMap Smp.cs) := rdS_opt hok
  refine FnC.intro Try.func19 rfl 124 rfl (by simp) (fun z => ?_)
  refine TC.env (E' := [(0, _), (1, _), (2, _), (3, _), (4, _)]) (Sub.cons rfl (Sub.cons rfl (Sub.cons rfl (Sub.cons rfl (Sub.cons rfl (Sub.nil _)))))) ?_
  refine TC.sr ?_
  refine TL.v (Val.assign rfl) ?_
  refine TL.v (Val.assign rfl) ?_
  refine TL.nt ?_
  refine TC.seq ?_
  refine TC.sr ?_
  refine TL.v (Val.move rfl) ?_
  refine TL.v (Val.lss rfl rfl) ?_
  refine TL.v (Val.move rfl) ?_
  refine TL.gen (fun g1 hg1 => ?_)
  refine TL.gv rfl rfl rfl (fun hg => by subst hg; exact (Val.move rfl)) ?_
  refine TL.gv rfl rfl rfl (fun hg => by subst hg; exact (Val.move rfl)) ?_
  refine TL.gv rfl rfl rfl (fun hg => by subst hg; exact (Val.nilCheck rfl)) ?_
  refine TL.gv rfl rfl rfl (fun hg => by subst hg; exact (Val.fieldAddr rfl fl105_0 sz26 rfl)) ?_
  refine TL.gv rfl rfl rfl (fun hg => by subst hg; exact (Val.fieldAddr rfl fl26_0 sz3 rfl)) ?_
  refine TL.gv rfl rfl rfl (fun hg => by subst hg; exact (Val.load 0 rfl ag3 rfl rfl)) ?_
  refine TL.gv rfl rfl rfl (fun hg => by subst hg; exact (Val.geq rfl rfl)) ?_
  refine TL.v (Val.pickOr rfl rfl rfl) ?_
  refine TL.nt ?_
  refine TC.en (E' := [(0, _), (1, _), (2, _), (3, _), (4, _), (10, _), (11, _), (26, _)]) ?_
  refine TC.cond rfl (fun c1 => ?_) (fun c1 => ?_)
  · skip
    (exfalso; grind)
  · skip
    refine TC.skip ?_
    refine AtX.then ?_
    refine TC.seq ?_
    refine TC.drawLM mixed 28 ?_
    refine TA.tk 0 1 rfl rfl rfl (Val.move rfl) ?_ (hro := ro_s)
    refine TA.tk 1 3 rfl rfl rfl (Val.move rfl) ?_ (hro := ro_s)
    refine TA.tk 2 7 rfl rfl rfl (Val.nilCheck rfl) ?_ (hro := ro_s)
    refine TA.tk 3 15 rfl rfl rfl (Val.fieldAddr rfl fl105_1 sz103 rfl) ?_ (hro := ro_s)
    refine TA.tk 4 31 rfl rfl rfl (Val.load 0 rfl ag103 rfl rfl) ?_ (hro := ro_s)
    refine TA.tk 5 63 rfl rfl rfl (Val.move rfl) ?_ (hro := ro_s)
    refine TA.tk 6 127 rfl rfl rfl (Val.indexAddr (i := k) (r := k) rfl rfl sl103 sz106 rfl hk2 (by omega)) ?_ (hro := ro_s)
    refine TA.tk 7 255 rfl rfl rfl (Val.loadRd (o := 0) (j := k) rfl ag106 (Rd.cons _ (Rd.app _ hRl)) (by omega) hp) ?_ (hro := ro_s)
    refine TA.tk 8 511 rfl rfl rfl (Val.nilCheck rfl) ?_ (hro := ro_s)
    refine TA.tk 9 1023 rfl rfl rfl (Val.fieldAddr rfl fl109_2 sz3 rfl) ?_ (hro := ro_s)
    refine TA.tk 10 2047 rfl rfl rfl (Val.load _ rfl ag3 (get_app1 hs) rfl) ?_ (hro := ro_s)
    refine TA.tk 11 4095 rfl rfl rfl (Val.move rfl) ?_ (hro := ro_s)
    refine TA.tk 12 8191 rfl rfl rfl (Val.nilCheck rfl) ?_ (hro := ro_s)
    refine TA.tk 13 16383 rfl rfl rfl (Val.fieldAddr rfl fl105_1 sz103 rfl) ?_ (hro := ro_s)
    refine TA.tk 14 32767 rfl rfl rfl (Val.load 0 rfl ag103 rfl rfl) ?_ (hro := ro_s)
    refine TA.tk 15 65535 rfl rfl rfl (Val.move rfl) ?_ (hro := ro_s)
    refine TA.tk 16 131071 rfl rfl rfl (Val.indexAddr (i := k) (r := k) rfl rfl sl103 sz106 rfl hk2 (by omega)) ?_ (hro := ro_s)
    refine TA.tk 17 262143 rfl rfl rfl (Val.loadRd (o := 0) (j := k) rfl ag106 (Rd.cons _ (Rd.app _ hRl)) (by omega) hp) ?_ (hro := ro_s)
    refine TA.tk 18 524287 rfl rfl rfl (Val.nilCheck rfl) ?_ (hro := ro_s)
    refine TA.tk 19 1048575 rfl rfl rfl (Val.fieldAddr rfl fl109_3 sz2 rfl) ?_ (hro := ro_s)
    refine TA.tk 20 2097151 rfl rfl rfl (Val.load _ rfl ag2 (get_app1 hs) rfl) ?_ (hro := ro_s)
    refine TA.tk 21 4194303 rfl rfl rfl (Val.add rfl rfl (r := q + 1) (w_i64 (by omega) (by omega))) ?_ (hro := ro_s)
    refine TA.tk 22 8388607 rfl rfl rfl (Val.move rfl) ?_ (hro := ro_s)
    refine TA.tk 23 16777215 rfl rfl rfl (Val.move rfl) ?_ (hro := ro_s)
    refine TA.tk 24 33554431 rfl rfl rfl (Val.move rfl) ?_ (hro := ro_s)
    refine TA.tk 25 67108863 rfl rfl rfl (Val.buildS pl61 ze61 rfl rfl) ?_ (hro := ro_s)
    refine TA.one 26 (by kernel_rfl) ?_
    refine TO.dz 134217727 (some 12) rfl rfl rfl rfl (Does.alloc ze61 rfl) ?_
    rintro _ _ ⟨bm, rfl, rfl⟩
    refine ⟨ro_s, ?_⟩
    refine TA.one 27 (by kernel_rfl) ?_
    refine TO.dz 268435455 none rfl rfl rfl rfl (Does.store (i := 0) rfl rfl rfl sz61 rfl rfl (by first | exact Nat.le_of_ble_eq_true rfl | decide | omega) rfl rfl) ?_
    rintro _ _ ⟨rfl, rfl⟩
    refine ⟨ro_s, ?_⟩
    refine TA.done (by kernel_rfl) ?_
    refine AtX.then ?_
    refine TC.en (E' := [(0, _), (1, _), (2, _), (3, _), (4, _), (10, _), (11, _), (12, _)]) ?_
    refine TC.seq ?_
    refine TC.sr ?_
    refine TL.v (Val.loadAgg 0 rfl ag61 sz61 rfl rfl rfl) ?_
    refine TL.d (Does.callF go55 rfl (refMay_fn ⟨1, (k : Nat), g, q + 1, e, v, me⟩ _)) ?_
    rintro _ _ ⟨gm, rfl, hgm, rfl⟩
    rw [hm] at hgm
    refine TL.v (Val.not rfl) ?_
    refine TL.nt ?_
    refine TC.condB rfl (fun c2 => ?_) (fun c2 => ?_)
    · skip
      (exfalso; rw [hgm] at c2; cases c2)
    · skip
      refine TC.skip ?_
      refine AtX.then ?_
      refine TC.sr ?_
      refine TL.v (Val.move rfl) ?_
      refine TL.v (Val.move rfl) ?_
      refine TL.v (Val.move rfl) ?_
      refine TL.v (Val.move rfl) ?_
      refine TL.v (Val.buildS pl100 ze100 rfl rfl) ?_
      refine TL.d (Does.alloc ze100 rfl) ?_
      rintro _ _ ⟨bs, rfl, rfl⟩
      refine TL.d (Does.store (i := 0) rfl rfl rfl sz100 rfl rfl (by first | exact Nat.le_of_ble_eq_true rfl | decide | omega) rfl rfl) ?_
      rintro _ _ ⟨rfl, rfl⟩
      refine TL.nt ?_
      refine TC.en (E' := [(0, _), (1, _), (2, _), (3, _), (4, _), (10, _), (11, _), (13, _)]) ?_
      refine TC.seq ?_
      refine TC.sr ?_
      refine TL.v (Val.move rfl) ?_
      refine TL.v (Val.nilCheck rfl) ?_
      refine TL.v (Val.fieldAddr rfl fl105_2 sz85 rfl) ?_
      refine TL.v (Val.load 2 rfl ag85 rfl rfl) ?_
      refine TL.v (Val.move rfl) ?_
      refine TL.v (Val.indexAddr (i := k) (r := k) rfl rfl sl85 sz4 rfl (by omega) (by omega)) ?_
      refine TL.v (Val.loadRd (o := 0) (j := k) (v := .bool false) rfl ag4 (Rd.cons _ (Rd.cons _ (Rd.cons _ (Rd.app _ hRb)))) (by omega) (map_get hx)) ?_
      refine TL.v (Val.not rfl) ?_
      refine TL.nt ?_
      refine TC.condB rfl (fun c3 => ?_) (fun c3 => ?_)
      · skip
        refine TC.en (E' := [(0, _), (1, _), (2, _), (3, _), (4, _), (10, _), (11, _), (13, _)]) ?_
        refine TC.seq ?_
        refine TC.sr ?_
        refine TL.v (Val.assign rfl) ?_
        refine TL.nt ?_
        refine TC.block ?_
        refine TC.loop (ι := Nat) (fun j => [(0, .pointer (some ⟨b, 0, none⟩)), (1, .int .i64 ((k : Nat) : Int)), (2, .int .i64 me), (3, .int .i64 e), (4, .int .i64 v), (13, .pointer (some ⟨bs, 0, none⟩)), (14, .int .i64 (j : Nat))]) (fun _ => (bs, .cells (Smp.cs ⟨(k : Nat), me, e, v⟩).toArray 100 (0, 0)) :: (bm, .cells #[.int .i64 1, .int .i64 ((k : Nat) : Int), .int .i64 g, .int .i64 (q + 1), .int .i64 e, .int .i64 v, .int .i64 me] 61 (0, 0)) :: rwo b c (some ⟨bl, 0, none⟩) ps.length cl bb l.length σ kept.length :: (slH σ 100 (kept.flatMap Smp.cs) ++ H0)) (fun j => j ≤ kept.length ∧ ∀ x ∈ kept.take j, sameS x (k : Nat) me e = false) (fun j => kept.length - j) 0 ?_ (Sub.cons rfl (Sub.cons rfl (Sub.cons rfl (Sub.cons rfl (Sub.cons rfl (Sub.cons rfl (Sub.cons rfl (Sub.nil _)))))))) (fun _ h => h) ?_
        · exact ⟨Nat.zero_le _, by simp⟩
        rintro j ⟨hj, hI⟩
        refine TC.seq ?_
        refine TC.sr ?_
        refine TL.v (Val.move rfl) ?_
        refine TL.v (Val.move rfl) ?_
        refine TL.v (Val.nilCheck rfl) ?_
        refine TL.v (Val.fieldAddr rfl fl105_3 sz87 rfl) ?_
        refine TL.v (Val.load 2 rfl ag87 rfl rfl) ?_
        refine TL.v (Val.lenSl rfl rfl sl87) ?_
        refine TL.v (Val.lss rfl rfl) ?_
        refine TL.nt ?_
        refine TC.condP rfl (fun c4 => ?_) (fun c4 => ?_)
        · skip
          refine TC.skip ?_
          refine AtX.then ?_
          refine TC.seq ?_
          refine TC.block ?_
          refine TC.seq ?_
          have hlt : j < kept.length := by omega
          obtain ⟨x, hx2⟩ : ∃ x, kept[j]? = some x := ⟨_, List.getElem?_eq_getElem hlt⟩
          have hAk : ∃ bA oA : Nat, slA σ = some ⟨bA, oA, none⟩ ∧ Rd (slH σ 100 (kept.flatMap Smp.cs) ++ H0) ⟨bA, oA, none⟩ (kept.flatMap Smp.cs) := RdS.get hRk (by rw [flat_len Smp.cs_len]; omega)
          obtain ⟨bA, oA, hAe, hRj⟩ := hAk
          refine TC.region ?_
          refine TL.v (Val.move rfl) ?_
          refine TL.v (Val.nilCheck rfl) ?_
          refine TL.v (Val.fieldAddr rfl fl105_3 sz87 rfl) ?_
          refine TL.v (Val.load 2 rfl ag87 rfl rfl) ?_
          rw [hAe]
          refine TL.v (Val.move rfl) ?_
          refine TL.v (Val.indexAddr (i := j) (r := oA + 4 * j) rfl rfl sl87 sz100 rfl hlt (by omega)) ?_
          refine TL.v (Val.loadAggR (o := oA) (j := 4 * j) (vs := x.cs) rfl ag100 sz100 (Rd.cons _ (Rd.cons _ (Rd.cons _ hRj))) rfl (flat_seg Smp.cs_len hx2) rfl) ?_
          refine TL.d (Does.alloc ze100 rfl) ?_
          rintro _ _ ⟨b3, rfl, rfl⟩
          refine TL.d (Does.store (i := 0) rfl rfl rfl sz100 rfl rfl (by first | exact Nat.le_of_ble_eq_true rfl | decide | omega) rfl rfl) ?_
          rintro _ _ ⟨rfl, rfl⟩
          refine TL.nt ?_
          refine TC.sr ?_
          refine TL.v (Val.fieldAddr rfl fl100_0 sz3 rfl) ?_
          refine TL.v (Val.load 0 rfl ag3 rfl rfl) ?_
          refine TL.v (Val.move rfl) ?_
          refine TL.v (Val.eqlI rfl rfl) ?_
          refine TL.v (Val.move rfl) ?_
          refine TL.gen (fun g4 hg4 => ?_)
          refine TL.gv rfl rfl rfl (fun hg => by subst hg; exact (Val.fieldAddr rfl fl100_1 sz3 rfl)) ?_
          refine TL.gv rfl rfl rfl (fun hg => by subst hg; exact (Val.load 0 rfl ag3 rfl rfl)) ?_
          refine TL.gv rfl rfl rfl (fun hg => by subst hg; exact (Val.move rfl)) ?_
          refine TL.gv rfl rfl rfl (fun hg => by subst hg; exact (Val.eqlI rfl rfl)) ?_
          refine TL.v (Val.pickAnd rfl rfl rfl) ?_
          refine TL.v (Val.move rfl) ?_
          refine TL.gen (fun g5 hg5 => ?_)
          refine TL.gv rfl rfl rfl (fun hg => by subst hg; exact (Val.fieldAddr rfl fl100_2 sz2 rfl)) ?_
          refine TL.gv rfl rfl rfl (fun hg => by subst hg; exact (Val.load 0 rfl ag2 rfl rfl)) ?_
          refine TL.gv rfl rfl rfl (fun hg => by subst hg; exact (Val.move rfl)) ?_
          refine TL.gv rfl rfl rfl (fun hg => by subst hg; exact (Val.eqlI rfl rfl)) ?_
          refine TL.v (Val.pickAnd rfl rfl rfl) ?_
          refine TL.nt ?_
          refine TC.cond rfl (fun c5 => ?_) (fun c5 => ?_)
          · skip
            (exfalso; have h1 : sameS x (k : Nat) me e = true := (by subst_vars; assumption); have h2 : kept.any (fun x => sameS x (k : Nat) me e) = true := List.any_eq_true.2 ⟨x, List.mem_of_getElem? hx2, h1⟩; rw [hno] at h2; cases h2)
          · skip
            refine TC.skip ?_
            refine AtX.blk ?_
            refine AtX.then ?_
            refine TC.region ?_
            refine TL.v (Val.move rfl) ?_
            refine TL.v (Val.add rfl rfl (w_i64 (by omega) (by omega))) ?_
            refine TL.v (Val.assign rfl) ?_
            refine TL.nil ?_
            refine AtX.round (j + 1) ?_ ?_ (Sub.cons rfl (Sub.cons rfl (Sub.cons rfl (Sub.cons rfl (Sub.cons rfl (Sub.cons rfl (Sub.cons rfl (Sub.nil _)))))))) ro_s
            · exact ⟨by omega, take_no (f := fun x => sameS x (k : Nat) me e) hI hx2 (by subst_vars; assumption)⟩
            · omega
        · skip
          refine TC.exit ?_
          refine AtX.seqX ?_
          refine AtX.seqX ?_
          refine AtX.hit ?_
          refine AtX.then ?_
          refine TC.en (E' := [(0, _), (1, _), (2, _), (3, _), (4, _), (13, _)]) ?_
          refine TC.drawGM [10] [(bs, .cells (Smp.cs ⟨(k : Nat), me, e, v⟩).toArray 100 (0, 0)), (bm, .cells #[.int .i64 1, .int .i64 ((k : Nat) : Int), .int .i64 g, .int .i64 (q + 1), .int .i64 e, .int .i64 v, .int .i64 me] 61 (0, 0)), rwo b c (some ⟨bl, 0, none⟩) ps.length cl bb l.length σ kept.length] [] mixed 11 ?_
          refine TG.tk false 0 1 rfl rfl rfl (Val.move rfl) ?_ (hro := ro_s)
          refine TG.tk false 1 3 rfl rfl rfl (Val.move rfl) ?_ (hro := ro_s)
          refine TG.tk false 2 7 rfl rfl rfl (Val.nilCheck rfl) ?_ (hro := ro_s)
          refine TG.tk false 3 15 rfl rfl rfl (Val.fieldAddr rfl fl105_3 sz87 rfl) ?_ (hro := ro_s)
          refine TG.tk false 4 31 rfl rfl rfl (Val.load 2 rfl ag87 rfl rfl) ?_ (hro := ro_s)
          refine TG.tk false 5 63 rfl rfl rfl (Val.loadAgg (vs := Smp.cs ⟨(k : Nat), me, e, v⟩) 0 rfl ag100 sz100 rfl rfl rfl) ?_ (hro := ro_s)
          refine TG.one 6 (by kernel_rfl) ?_
          refine TP.dz false 127 (some 107) rfl rfl rfl rfl (Does.buildSlice (cs := Smp.cs ⟨(k : Nat), me, e, v⟩) sl87 sz100 ze100 (by decide) (by decide) rfl rfl rfl) ?_
          rintro _ _ ⟨bt, rfl, rfl⟩
          refine ⟨ro_s, ?_⟩
          refine TG.one 7 (by kernel_rfl) ?_
          refine TP.dz false 255 (some 108) rfl rfl rfl rfl (Does.appendS (xs := (kept.flatMap Smp.cs)) (ys := Smp.cs ⟨(k : Nat), me, e, v⟩) σ ((bs, .cells (Smp.cs ⟨(k : Nat), me, e, v⟩).toArray 100 (0, 0)) :: (bm, .cells #[.int .i64 1, .int .i64 ((k : Nat) : Int), .int .i64 g, .int .i64 (q + 1), .int .i64 e, .int .i64 v, .int .i64 me] 61 (0, 0)) :: rwo b c (some ⟨bl, 0, none⟩) ps.length cl bb l.length σ kept.length :: H0) (fun w h => h.drop.ac) rfl rfl sl87 sz100 by100 ze100 rfl hok (.inl ⟨_, _, rfl, ⟨100, us87⟩, .some (Rd.get (i := 0) rfl rfl)⟩) rfl (one_smp _) (by omega) (by omega)) ?_
          rintro _ _ ⟨σ1, rfl, hok1, rfl⟩
          refine ⟨ro_s, ?_⟩
          refine TG.heap (M' := (bs, .cells (Smp.cs ⟨(k : Nat), me, e, v⟩).toArray 100 (0, 0)) :: (bm, .cells #[.int .i64 1, .int .i64 ((k : Nat) : Int), .int .i64 g, .int .i64 (q + 1), .int .i64 e, .int .i64 v, .int .i64 me] 61 (0, 0)) :: rwo b c (some ⟨bl, 0, none⟩) ps.length cl bb l.length σ kept.length :: (slH σ1 100 ((kept.flatMap Smp.cs) ++ Smp.cs ⟨(k : Nat), me, e, v⟩) ++ H0)) ro_ac ?_
          refine TG.tw false 8 511 rfl rfl rfl (Val.nilCheck rfl) ?_ (hro := ro_s)
          refine TG.tk false 9 1023 rfl rfl rfl (Val.fieldAddr rfl fl105_3 sz87 rfl) ?_ (hro := ro_s)
          refine TG.one 10 (by kernel_rfl) ?_
          refine TP.dz true 2047 none rfl rfl rfl rfl (Does.store (i := 2) rfl rfl rfl sz87 rfl rfl (by first | exact Nat.le_of_ble_eq_true rfl | decide | omega) rfl rfl) ?_
          rintro _ _ ⟨rfl, rfl⟩
          refine ⟨ro_s, ?_⟩
          refine TG.done (by kernel_rfl) ?_ _
          refine AtX.then ?_
          refine TC.en (E' := [(0, _), (1, _), (2, _), (3, _), (4, _)]) ?_
          refine TC.seq ?_
          refine TC.heap (M' := (bs, .cells (Smp.cs ⟨(k : Nat), me, e, v⟩).toArray 100 (0, 0)) :: (bm, .cells #[.int .i64 1, .int .i64 ((k : Nat) : Int), .int .i64 g, .int .i64 (q + 1), .int .i64 e, .int .i64 v, .int .i64 me] 61 (0, 0)) :: rwo b c (some ⟨bl, 0, none⟩) ps.length cl bb l.length σ1 (kept.length + 1) :: (slH σ1 100 ((kept.flatMap Smp.cs) ++ Smp.cs ⟨(k : Nat), me, e, v⟩) ++ H0)) (fun w h => h) ?_
          refine TC.region ?_
          refine TL.v (Val.move rfl) ?_
          refine TL.v (Val.nilCheck rfl) ?_
          refine TL.v (Val.fieldAddr rfl fl105_1 sz103 rfl) ?_
          refine TL.v (Val.load 2 rfl ag103 rfl rfl) ?_
          refine TL.v (Val.move rfl) ?_
          refine TL.v (Val.indexAddr (i := k) (r := k) rfl rfl sl103 sz106 rfl hk2 (by omega)) ?_
          refine TL.v (Val.loadRd (o := 0) (j := k) rfl ag106 (Rd.cons _ (Rd.cons _ (Rd.cons _ (Rd.app _ hRl)))) (by omega) hp) ?_
          refine TL.v (Val.move rfl) ?_
          refine TL.v (Val.move rfl) ?_
          refine TL.v (Val.move rfl) ?_
          refine TL.d (Does.callF go56 rfl (refSS_yes sb _ s (k : Nat) g q _ (get_app3 hs) hq me e v hm)) ?_
          rintro _ _ ⟨rfl, rfl⟩
          refine TL.v (Val.extract rfl rfl) ?_
          refine TL.v (Val.extract rfl rfl) ?_
          refine TL.v (Val.assign rfl) ?_
          refine TL.v (Val.assign rfl) ?_
          refine TL.nt ?_
          refine TC.en (E' := [(10, _), (11, _)]) ?_
          refine TC.r2 (hM := (fun w h => by rw [set_app3] at h; exact h.drop.drop)) (M' := rwo b c (some ⟨bl, 0, none⟩) ps.length cl bb l.length σ1 (kept.length + 1) :: (slH σ1 100 ((kept.flatMap Smp.cs) ++ Smp.cs ⟨(k : Nat), me, e, v⟩) ++ H0.set js (rsO sb s (k : Nat) g (q + 1)))) (fn := Try.f19) (fun _ _ h => h) rfl (RV.tmp rfl) (RV.tmp rfl) ?_
          exact ⟨σ1, rfl, hok1, rfl⟩
      · skip
        (exfalso; simp at c3)

end Go.Proofs.Ytphoapajlcaoeaa
/- walks -/
set_option linter.unusedVariables false
set_option linter.unusedSimpArgs false
set_option maxRecDepth 100000
set_option maxHeartbeats 4000000
namespace Go.Proofs.Ytphoapajlcaoeaa
open Go Go.X
/-- quorumite/wire.in -/
theorem in_fn (n lo hi : Int) (M : Hp) : FnC Try.prog 84 #[.int .i64 n, .int .i64 lo, .int .i64 hi] M (fun v M' => v = .bool (inB n lo hi) ∧ M = M') := by
  refine FnC.intro Try.func84 rfl 15 rfl (by simp) (fun z => ?_)
  refine TC.env (E' := [(0, _), (1, _), (2, _)]) (Sub.cons rfl (Sub.cons rfl (Sub.cons rfl (Sub.nil _)))) ?_
  refine TC.sr ?_
  refine TL.v (Val.assign rfl) ?_
  refine TL.nt ?_
  refine TC.sr ?_
  refine TL.v (Val.move rfl) ?_
  refine TL.v (Val.move rfl) ?_
  refine TL.v (Val.geq rfl rfl) ?_
  refine TL.v (Val.move rfl) ?_
  refine TL.gen (fun g1 hg1 => ?_)
  refine TL.gv rfl rfl rfl (fun hg => by subst hg; exact (Val.move rfl)) ?_
  refine TL.gv rfl rfl rfl (fun hg => by subst hg; exact (Val.move rfl)) ?_
  refine TL.gv rfl rfl rfl (fun hg => by subst hg; exact (Val.leq rfl rfl)) ?_
  refine TL.v (Val.pickAnd rfl rfl rfl) ?_
  refine TL.v (Val.assign rfl) ?_
  refine TL.nt ?_
  refine TC.en (E' := [(6, _)]) ?_
  refine TC.r1 (hM := (fun _ h => h)) (fn := Try.f84) (fun _ _ h => h) rfl (RV.tmp rfl) ?_
  refine ⟨?_, rfl⟩
  subst_vars
  rfl

/-- quorumite/wire.May -/
theorem May_fn (m : Ms) (M : Hp) : FnC Try.prog 47 #[.agg #[.int .i64 m.kind, .int .i64 m.who, .int .i64 m.gen, .int .i64 m.seq, .int .i64 m.epoch, .int .i64 m.value, .int .i64 m.metric]] M (fun v M' => ∃ g, v = .bool g ∧ g = mayM m ∧ M = M') := by
  refine FnC.intro Try.func47 rfl 43 rfl (by simp) (fun z => ?_)
  refine TC.env (E' := [(0, _)]) (Sub.cons rfl (Sub.nil _)) ?_
  refine TC.sr ?_
  refine TL.d (Does.box rfl rfl) ?_
  rintro _ _ ⟨b1, rfl, rfl⟩
  refine TL.v (Val.assign rfl) ?_
  refine TL.nt ?_
  refine TC.sr ?_
  refine TL.v (Val.assign rfl) ?_
  refine TL.v (Val.assign rfl) ?_
  refine TL.nt ?_
  refine TC.seq ?_
  refine TC.sr ?_
  refine TL.v (Val.fieldAddr rfl fl61_0 sz3 rfl) ?_
  refine TL.v (Val.load 0 rfl ag3 rfl rfl) ?_
  refine TL.v (Val.eqlI rfl rfl) ?_
  refine TL.nt ?_
  refine TC.condP rfl (fun c1 => ?_) (fun c1 => ?_)
  · skip
    refine TC.region ?_
    refine TL.v (Val.assign rfl) ?_
    refine TL.v (Val.assign rfl) ?_
    refine TL.nt ?_
    refine TC.sr ?_
    refine TL.v (Val.fieldAddr rfl fl61_0 sz3 rfl) ?_
    refine TL.v (Val.load 0 rfl ag3 rfl rfl) ?_
    refine TL.d (Does.callF go84 rfl (in_fn _ _ _ _)) ?_
    rintro _ _ ⟨rfl, rfl⟩
    refine TL.v (Val.move rfl) ?_
    refine TL.gen (fun g3 hg3 => ?_)
    refine TL.gv rfl rfl rfl (fun hg => by subst hg; exact (Val.fieldAddr rfl fl61_1 sz3 rfl)) ?_
    refine TL.gv rfl rfl rfl (fun hg => by subst hg; exact (Val.load 0 rfl ag3 rfl rfl)) ?_
    cases g3 with
    | false =>
      refine TL.pa ?_
      refine TL.v (Val.pick rfl rfl rfl) ?_
      refine TL.v (Val.move rfl) ?_
      refine TL.pa ?_
      refine TL.pa ?_
      refine TL.pa ?_
      refine TL.v (Val.pick rfl rfl rfl) ?_
      refine TL.v (Val.move rfl) ?_
      refine TL.pa ?_
      refine TL.pa ?_
      refine TL.pa ?_
      refine TL.v (Val.pick rfl rfl rfl) ?_
      refine TL.v (Val.move rfl) ?_
      refine TL.pa ?_
      refine TL.pa ?_
      refine TL.pa ?_
      refine TL.v (Val.pick rfl rfl rfl) ?_
      refine TL.v (Val.move rfl) ?_
      refine TL.pa ?_
      refine TL.pa ?_
      refine TL.pa ?_
      refine TL.pa ?_
      refine TL.v (Val.pick rfl rfl rfl) ?_
      refine TL.v (Val.move rfl) ?_
      refine TL.pa ?_
      refine TL.pa ?_
      refine TL.pa ?_
      refine TL.pa ?_
      refine TL.v (Val.pick rfl rfl rfl) ?_
      refine TL.v (Val.assign rfl) ?_
      refine TL.nt ?_
      refine TC.en (E' := [(2, _)]) ?_
      refine TC.r1 (M' := M) (fn := Try.f47) (fun _ _ h => h) rfl (RV.tmp rfl) ?_
      refine ⟨_, rfl, ?_, rfl⟩
      subst_vars
      simp only [mayM, inB] at *
      grind
    | true =>
      refine TL.dy (Does.callF go84 rfl (in_fn _ _ _ _)) ?_
      rintro _ _ ⟨rfl, rfl⟩
      refine TL.v (Val.pickAnd rfl rfl rfl) ?_
      refine TL.v (Val.move rfl) ?_
      refine TL.gen (fun g5 hg5 => ?_)
      refine TL.gv rfl rfl rfl (fun hg => by subst hg; exact (Val.fieldAddr rfl fl61_2 sz3 rfl)) ?_
      refine TL.gv rfl rfl rfl (fun hg => by subst hg; exact (Val.load 0 rfl ag3 rfl rfl)) ?_
      cases g5 with
      | false =>
        refine TL.pa ?_
        refine TL.v (Val.pick rfl rfl rfl) ?_
        refine TL.v (Val.move rfl) ?_
        refine TL.pa ?_
        refine TL.pa ?_
        refine TL.pa ?_
        refine TL.v (Val.pick rfl rfl rfl) ?_
        refine TL.v (Val.move rfl) ?_
        refine TL.pa ?_
        refine TL.pa ?_
        refine TL.pa ?_
        refine TL.v (Val.pick rfl rfl rfl) ?_
        refine TL.v (Val.move rfl) ?_
        refine TL.pa ?_
        refine TL.pa ?_
        refine TL.pa ?_
        refine TL.pa ?_
        refine TL.v (Val.pick rfl rfl rfl) ?_
        refine TL.v (Val.move rfl) ?_
        refine TL.pa ?_
        refine TL.pa ?_
        refine TL.pa ?_
        refine TL.pa ?_
        refine TL.v (Val.pick rfl rfl rfl) ?_
        refine TL.v (Val.assign rfl) ?_
        refine TL.nt ?_
        refine TC.en (E' := [(2, _)]) ?_
        refine TC.r1 (M' := M) (fn := Try.f47) (fun _ _ h => h) rfl (RV.tmp rfl) ?_
        refine ⟨_, rfl, ?_, rfl⟩
        subst_vars
        simp only [mayM, inB] at *
        grind
      | true =>
        refine TL.dy (Does.callF go84 rfl (in_fn _ _ _ _)) ?_
        rintro _ _ ⟨rfl, rfl⟩
        refine TL.v (Val.pickAnd rfl rfl rfl) ?_
        refine TL.v (Val.move rfl) ?_
        refine TL.gen (fun g7 hg7 => ?_)
        refine TL.gv rfl rfl rfl (fun hg => by subst hg; exact (Val.fieldAddr rfl fl61_3 sz2 rfl)) ?_
        refine TL.gv rfl rfl rfl (fun hg => by subst hg; exact (Val.load 0 rfl ag2 rfl rfl)) ?_
        cases g7 with
        | false =>
          refine TL.pa ?_
          refine TL.v (Val.pick rfl rfl rfl) ?_
          refine TL.v (Val.move rfl) ?_
          refine TL.pa ?_
          refine TL.pa ?_
          refine TL.pa ?_
          refine TL.v (Val.pick rfl rfl rfl) ?_
          refine TL.v (Val.move rfl) ?_
          refine TL.pa ?_
          refine TL.pa ?_
          refine TL.pa ?_
          refine TL.pa ?_
          refine TL.v (Val.pick rfl rfl rfl) ?_
          refine TL.v (Val.move rfl) ?_
          refine TL.pa ?_
          refine TL.pa ?_
          refine TL.pa ?_
          refine TL.pa ?_
          refine TL.v (Val.pick rfl rfl rfl) ?_
          refine TL.v (Val.assign rfl) ?_
          refine TL.nt ?_
          refine TC.en (E' := [(2, _)]) ?_
          refine TC.r1 (M' := M) (fn := Try.f47) (fun _ _ h => h) rfl (RV.tmp rfl) ?_
          refine ⟨_, rfl, ?_, rfl⟩
          subst_vars
          simp only [mayM, inB] at *
          grind
        | true =>
          refine TL.dy (Does.callF go84 rfl (in_fn _ _ _ _)) ?_
          rintro _ _ ⟨rfl, rfl⟩
          refine TL.v (Val.pickAnd rfl rfl rfl) ?_
          refine TL.v (Val.move rfl) ?_
          refine TL.gen (fun g9 hg9 => ?_)
          refine TL.gv rfl rfl rfl (fun hg => by subst hg; exact (Val.fieldAddr rfl fl61_4 sz2 rfl)) ?_
          refine TL.gv rfl rfl rfl (fun hg => by subst hg; exact (Val.load 0 rfl ag2 rfl rfl)) ?_
          cases g9 with
          | false =>
            refine TL.pa ?_
            refine TL.v (Val.pick rfl rfl rfl) ?_
            refine TL.v (Val.move rfl) ?_
            refine TL.pa ?_
            refine TL.pa ?_
            refine TL.pa ?_
            refine TL.pa ?_
            refine TL.v (Val.pick rfl rfl rfl) ?_
            refine TL.v (Val.move rfl) ?_
            refine TL.pa ?_
            refine TL.pa ?_
            refine TL.pa ?_
            refine TL.pa ?_
            refine TL.v (Val.pick rfl rfl rfl) ?_
            refine TL.v (Val.assign rfl) ?_
            refine TL.nt ?_
            refine TC.en (E' := [(2, _)]) ?_
            refine TC.r1 (M' := M) (fn := Try.f47) (fun _ _ h => h) rfl (RV.tmp rfl) ?_
            refine ⟨_, rfl, ?_, rfl⟩
            subst_vars
            simp only [mayM, inB] at *
            grind
          | true =>
            refine TL.dy (Does.callF go84 rfl (in_fn _ _ _ _)) ?_
            rintro _ _ ⟨rfl, rfl⟩
            refine TL.v (Val.pickAnd rfl rfl rfl) ?_
            refine TL.v (Val.move rfl) ?_
            refine TL.gen (fun g11 hg11 => ?_)
            refine TL.gv rfl rfl rfl (fun hg => by subst hg; exact (Val.fieldAddr rfl fl61_6 sz3 rfl)) ?_
            refine TL.gv rfl rfl rfl (fun hg => by subst hg; exact (Val.load 0 rfl ag3 rfl rfl)) ?_
            refine TL.gv rfl rfl rfl (fun hg => by subst hg; exact (Val.move rfl)) ?_
            cases g11 with
            | false =>
              refine TL.pa ?_
              refine TL.v (Val.pick rfl rfl rfl) ?_
              refine TL.v (Val.move rfl) ?_
              refine TL.pa ?_
              refine TL.pa ?_
              refine TL.pa ?_
              refine TL.pa ?_
              refine TL.v (Val.pick rfl rfl rfl) ?_
              refine TL.v (Val.assign rfl) ?_
              refine TL.nt ?_
              refine TC.en (E' := [(2, _)]) ?_
              refine TC.r1 (M' := M) (fn := Try.f47) (fun _ _ h => h) rfl (RV.tmp rfl) ?_
              refine ⟨_, rfl, ?_, rfl⟩
              subst_vars
              simp only [mayM, inB] at *
              grind
            | true =>
              refine TL.dy (Does.callF go84 rfl (in_fn _ _ _ _)) ?_
              rintro _ _ ⟨rfl, rfl⟩
              refine TL.v (Val.pickAnd rfl rfl rfl) ?_
              refine TL.v (Val.move rfl) ?_
              refine TL.gen (fun g13 hg13 => ?_)
              refine TL.gv rfl rfl rfl (fun hg => by subst hg; exact (Val.fieldAddr rfl fl61_5 sz2 rfl)) ?_
              refine TL.gv rfl rfl rfl (fun hg => by subst hg; exact (Val.load 0 rfl ag2 rfl rfl)) ?_
              refine TL.gv rfl rfl rfl (fun hg => by subst hg; exact (Val.move rfl)) ?_
              cases g13 with
              | false =>
                refine TL.pa ?_
                refine TL.v (Val.pick rfl rfl rfl) ?_
                refine TL.v (Val.assign rfl) ?_
                refine TL.nt ?_
                refine TC.en (E' := [(2, _)]) ?_
                refine TC.r1 (M' := M) (fn := Try.f47) (fun _ _ h => h) rfl (RV.tmp rfl) ?_
                refine ⟨_, rfl, ?_, rfl⟩
                subst_vars
                simp only [mayM, inB] at *
                grind
              | true =>
                refine TL.dy (Does.callF go84 rfl (in_fn _ _ _ _)) ?_
                rintro _ _ ⟨rfl, rfl⟩
                refine TL.v (Val.pickAnd rfl rfl rfl) ?_
                refine TL.v (Val.assign rfl) ?_
                refine TL.nt ?_
                refine TC.en (E' := [(2, _)]) ?_
                refine TC.r1 (M' := M) (fn := Try.f47) (fun _ _ h => h) rfl (RV.tmp rfl) ?_
                refine ⟨_, rfl, ?_, rfl⟩
                subst_vars
                simp only [mayM, inB] at *
                grind
  · skip
    refine TC.skip ?_
    refine AtX.then ?_
    refine TC.sr ?_
    refine TL.v (Val.fieldAddr rfl fl61_0 sz3 rfl) ?_
    refine TL.v (Val.load 0 rfl ag3 rfl rfl) ?_
    refine TL.d (Does.callF go84 rfl (in_fn _ _ _ _)) ?_
    rintro _ _ ⟨rfl, rfl⟩
    refine TL.v (Val.move rfl) ?_
    refine TL.gen (fun g16 hg16 => ?_)
    refine TL.gv rfl rfl rfl (fun hg => by subst hg; exact (Val.fieldAddr rfl fl61_1 sz3 rfl)) ?_
    refine TL.gv rfl rfl rfl (fun hg => by subst hg; exact (Val.load 0 rfl ag3 rfl rfl)) ?_
    cases g16 with
    | false =>
      refine TL.pa ?_
      refine TL.v (Val.pick rfl rfl rfl) ?_
      refine TL.v (Val.move rfl) ?_
      refine TL.pa ?_
      refine TL.pa ?_
      refine TL.pa ?_
      refine TL.v (Val.pick rfl rfl rfl) ?_
      refine TL.v (Val.move rfl) ?_
      refine TL.pa ?_
      refine TL.pa ?_
      refine TL.pa ?_
      refine TL.v (Val.pick rfl rfl rfl) ?_
      refine TL.v (Val.move rfl) ?_
      refine TL.pa ?_
      refine TL.pa ?_
      refine TL.pa ?_
      refine TL.v (Val.pick rfl rfl rfl) ?_
      refine TL.v (Val.move rfl) ?_
      refine TL.pa ?_
      refine TL.pa ?_
      refine TL.pa ?_
      refine TL.pa ?_
      refine TL.v (Val.pick rfl rfl rfl) ?_
      refine TL.v (Val.move rfl) ?_
      refine TL.pa ?_
      refine TL.pa ?_
      refine TL.pa ?_
      refine TL.pa ?_
      refine TL.v (Val.pick rfl rfl rfl) ?_
      refine TL.v (Val.assign rfl) ?_
      refine TL.nt ?_
      refine TC.en (E' := [(2, _)]) ?_
      refine TC.r1 (M' := M) (fn := Try.f47) (fun _ _ h => h) rfl (RV.tmp rfl) ?_
      refine ⟨_, rfl, ?_, rfl⟩
      subst_vars
      simp only [mayM, inB] at *
      grind
    | true =>
      refine TL.dy (Does.callF go84 rfl (in_fn _ _ _ _)) ?_
      rintro _ _ ⟨rfl, rfl⟩
      refine TL.v (Val.pickAnd rfl rfl rfl) ?_
      refine TL.v (Val.move rfl) ?_
      refine TL.gen (fun g18 hg18 => ?_)
      refine TL.gv rfl rfl rfl (fun hg => by subst hg; exact (Val.fieldAddr rfl fl61_2 sz3 rfl)) ?_
      refine TL.gv rfl rfl rfl (fun hg => by subst hg; exact (Val.load 0 rfl ag3 rfl rfl)) ?_
      cases g18 with
      | false =>
        refine TL.pa ?_
        refine TL.v (Val.pick rfl rfl rfl) ?_
        refine TL.v (Val.move rfl) ?_
        refine TL.pa ?_
        refine TL.pa ?_
        refine TL.pa ?_
        refine TL.v (Val.pick rfl rfl rfl) ?_
        refine TL.v (Val.move rfl) ?_
        refine TL.pa ?_
        refine TL.pa ?_
        refine TL.pa ?_
        refine TL.v (Val.pick rfl rfl rfl) ?_
        refine TL.v (Val.move rfl) ?_
        refine TL.pa ?_
        refine TL.pa ?_
        refine TL.pa ?_
        refine TL.pa ?_
        refine TL.v (Val.pick rfl rfl rfl) ?_
        refine TL.v (Val.move rfl) ?_
        refine TL.pa ?_
        refine TL.pa ?_
        refine TL.pa ?_
        refine TL.pa ?_
        refine TL.v (Val.pick rfl rfl rfl) ?_
        refine TL.v (Val.assign rfl) ?_
        refine TL.nt ?_
        refine TC.en (E' := [(2, _)]) ?_
        refine TC.r1 (M' := M) (fn := Try.f47) (fun _ _ h => h) rfl (RV.tmp rfl) ?_
        refine ⟨_, rfl, ?_, rfl⟩
        subst_vars
        simp only [mayM, inB] at *
        grind
      | true =>
        refine TL.dy (Does.callF go84 rfl (in_fn _ _ _ _)) ?_
        rintro _ _ ⟨rfl, rfl⟩
        refine TL.v (Val.pickAnd rfl rfl rfl) ?_
        refine TL.v (Val.move rfl) ?_
        refine TL.gen (fun g20 hg20 => ?_)
        refine TL.gv rfl rfl rfl (fun hg => by subst hg; exact (Val.fieldAddr rfl fl61_3 sz2 rfl)) ?_
        refine TL.gv rfl rfl rfl (fun hg => by subst hg; exact (Val.load 0 rfl ag2 rfl rfl)) ?_
        cases g20 with
        | false =>
          refine TL.pa ?_
          refine TL.v (Val.pick rfl rfl rfl) ?_
          refine TL.v (Val.move rfl) ?_
          refine TL.pa ?_
          refine TL.pa ?_
          refine TL.pa ?_
          refine TL.v (Val.pick rfl rfl rfl) ?_
          refine TL.v (Val.move rfl) ?_
          refine TL.pa ?_
          refine TL.pa ?_
          refine TL.pa ?_
          refine TL.pa ?_
          refine TL.v (Val.pick rfl rfl rfl) ?_
          refine TL.v (Val.move rfl) ?_
          refine TL.pa ?_
          refine TL.pa ?_
          refine TL.pa ?_
          refine TL.pa ?_
          refine TL.v (Val.pick rfl rfl rfl) ?_
          refine TL.v (Val.assign rfl) ?_
          refine TL.nt ?_
          refine TC.en (E' := [(2, _)]) ?_
          refine TC.r1 (M' := M) (fn := Try.f47) (fun _ _ h => h) rfl (RV.tmp rfl) ?_
          refine ⟨_, rfl, ?_, rfl⟩
          subst_vars
          simp only [mayM, inB] at *
          grind
        | true =>
          refine TL.dy (Does.callF go84 rfl (in_fn _ _ _ _)) ?_
          rintro _ _ ⟨rfl, rfl⟩
          refine TL.v (Val.pickAnd rfl rfl rfl) ?_
          refine TL.v (Val.move rfl) ?_
          refine TL.gen (fun g22 hg22 => ?_)
          refine TL.gv rfl rfl rfl (fun hg => by subst hg; exact (Val.fieldAddr rfl fl61_4 sz2 rfl)) ?_
          refine TL.gv rfl rfl rfl (fun hg => by subst hg; exact (Val.load 0 rfl ag2 rfl rfl)) ?_
          cases g22 with
          | false =>
            refine TL.pa ?_
            refine TL.v (Val.pick rfl rfl rfl) ?_
            refine TL.v (Val.move rfl) ?_
            refine TL.pa ?_
            refine TL.pa ?_
            refine TL.pa ?_
            refine TL.pa ?_
            refine TL.v (Val.pick rfl rfl rfl) ?_
            refine TL.v (Val.move rfl) ?_
            refine TL.pa ?_
            refine TL.pa ?_
            refine TL.pa ?_
            refine TL.pa ?_
            refine TL.v (Val.pick rfl rfl rfl) ?_
            refine TL.v (Val.assign rfl) ?_
            refine TL.nt ?_
            refine TC.en (E' := [(2, _)]) ?_
            refine TC.r1 (M' := M) (fn := Try.f47) (fun _ _ h => h) rfl (RV.tmp rfl) ?_
            refine ⟨_, rfl, ?_, rfl⟩
            subst_vars
            simp only [mayM, inB] at *
            grind
          | true =>
            refine TL.dy (Does.callF go84 rfl (in_fn _ _ _ _)) ?_
            rintro _ _ ⟨rfl, rfl⟩
            refine TL.v (Val.pickAnd rfl rfl rfl) ?_
            refine TL.v (Val.move rfl) ?_
            refine TL.gen (fun g24 hg24 => ?_)
            refine TL.gv rfl rfl rfl (fun hg => by subst hg; exact (Val.fieldAddr rfl fl61_6 sz3 rfl)) ?_
            refine TL.gv rfl rfl rfl (fun hg => by subst hg; exact (Val.load 0 rfl ag3 rfl rfl)) ?_
            refine TL.gv rfl rfl rfl (fun hg => by subst hg; exact (Val.move rfl)) ?_
            cases g24 with
            | false =>
              refine TL.pa ?_
              refine TL.v (Val.pick rfl rfl rfl) ?_
              refine TL.v (Val.move rfl) ?_
              refine TL.pa ?_
              refine TL.pa ?_
              refine TL.pa ?_
              refine TL.pa ?_
              refine TL.v (Val.pick rfl rfl rfl) ?_
              refine TL.v (Val.assign rfl) ?_
              refine TL.nt ?_
              refine TC.en (E' := [(2, _)]) ?_
              refine TC.r1 (M' := M) (fn := Try.f47) (fun _ _ h => h) rfl (RV.tmp rfl) ?_
              refine ⟨_, rfl, ?_, rfl⟩
              subst_vars
              simp only [mayM, inB] at *
              grind
            | true =>
              refine TL.dy (Does.callF go84 rfl (in_fn _ _ _ _)) ?_
              rintro _ _ ⟨rfl, rfl⟩
              refine TL.v (Val.pickAnd rfl rfl rfl) ?_
              refine TL.v (Val.move rfl) ?_
              refine TL.gen (fun g26 hg26 => ?_)
              refine TL.gv rfl rfl rfl (fun hg => by subst hg; exact (Val.fieldAddr rfl fl61_5 sz2 rfl)) ?_
              refine TL.gv rfl rfl rfl (fun hg => by subst hg; exact (Val.load 0 rfl ag2 rfl rfl)) ?_
              refine TL.gv rfl rfl rfl (fun hg => by subst hg; exact (Val.move rfl)) ?_
              cases g26 with
              | false =>
                refine TL.pa ?_
                refine TL.v (Val.pick rfl rfl rfl) ?_
                refine TL.v (Val.assign rfl) ?_
                refine TL.nt ?_
                refine TC.en (E' := [(2, _)]) ?_
                refine TC.r1 (M' := M) (fn := Try.f47) (fun _ _ h => h) rfl (RV.tmp rfl) ?_
                refine ⟨_, rfl, ?_, rfl⟩
                subst_vars
                simp only [mayM, inB] at *
                grind
              | true =>
                refine TL.dy (Does.callF go84 rfl (in_fn _ _ _ _)) ?_
                rintro _ _ ⟨rfl, rfl⟩
                refine TL.v (Val.pickAnd rfl rfl rfl) ?_
                refine TL.v (Val.assign rfl) ?_
                refine TL.nt ?_
                refine TC.en (E' := [(2, _)]) ?_
                refine TC.r1 (M' := M) (fn := Try.f47) (fun _ _ h => h) rfl (RV.tmp rfl) ?_
                refine ⟨_, rfl, ?_, rfl⟩
                subst_vars
                simp only [mayM, inB] at *
                grind

/-- quorumite/wire.Put -/
theorem wPut_no (m : Ms) (M : Hp) (hm : mayM m = false) : FnC Try.prog 38 #[.agg #[.int .i64 m.kind, .int .i64 m.who, .int .i64 m.gen, .int .i64 m.seq, .int .i64 m.epoch, .int .i64 m.value, .int .i64 m.metric]] M (fun v M' => v = .tuple #[.slice none 0 0, .int .i64 1] ∧ M = M') := by
  refine FnC.intro Try.func38 rfl 45 rfl (by simp) (fun z => ?_)
  refine TC.env (E' := [(0, _)]) (Sub.cons rfl (Sub.nil _)) ?_
  refine TC.sr ?_
  refine TL.d (Does.box rfl rfl) ?_
  rintro _ _ ⟨b1, rfl, rfl⟩
  refine TL.v (Val.assign rfl) ?_
  refine TL.v (Val.assign rfl) ?_
  refine TL.nt ?_
  refine TC.seq ?_
  refine TC.sr ?_
  refine TL.v (Val.loadAgg 0 rfl ag61 sz61 rfl rfl rfl) ?_
  refine TL.d (Does.callF go47 rfl (May_fn m _)) ?_
  rintro _ _ ⟨g1, rfl, hg1_, rfl⟩
  refine TL.v (Val.not rfl) ?_
  refine TL.nt ?_
  refine TC.condB rfl (fun c1 => ?_) (fun c1 => ?_)
  · skip
    refine TC.sr ?_
    refine TL.v (Val.assign rfl) ?_
    refine TL.v (Val.assign rfl) ?_
    refine TL.nt ?_
    refine TC.r2 (M' := M) (fn := Try.f38) (fun _ _ h => h) rfl (RV.tmp rfl) (RV.tmp rfl) ?_
    exact ⟨rfl, rfl⟩
  · skip
    (rw [hg1_, hm] at c1; cases c1)

/-- quorumite/wire.Seal -/
theorem wSeal_no (k : K2) (m : Ms) (M : Hp) (hm : mayM m = false) : FnC Try.prog 36 #[.agg #[.int .u64 k.a, .int .u64 k.b], .agg #[.int .i64 m.kind, .int .i64 m.who, .int .i64 m.gen, .int .i64 m.seq, .int .i64 m.epoch, .int .i64 m.value, .int .i64 m.metric]] M (fun v M' => v = .tuple #[.slice none 0 0, .int .i64 1] ∧ M = M') := by
  refine FnC.intro Try.func36 rfl 22 rfl (by simp) (fun z => ?_)
  refine TC.env (E' := [(0, _), (1, _)]) (Sub.cons rfl (Sub.cons rfl (Sub.nil _))) ?_
  refine TC.sr ?_
  refine TL.d (Does.box rfl rfl) ?_
  rintro _ _ ⟨b1, rfl, rfl⟩
  refine TL.d (Does.box rfl rfl) ?_
  rintro _ _ ⟨b2, rfl, rfl⟩
  refine TL.v (Val.assign rfl) ?_
  refine TL.v (Val.assign rfl) ?_
  refine TL.nt ?_
  refine TC.sr ?_
  refine TL.v (Val.loadAgg 0 rfl ag61 sz61 rfl rfl rfl) ?_
  refine TL.d (Does.callF go38 rfl (wPut_no m _ hm)) ?_
  rintro _ _ ⟨rfl, rfl⟩
  refine TL.v (Val.move rfl) ?_
  refine TL.v (Val.extract rfl rfl) ?_
  refine TL.v (Val.extract rfl rfl) ?_
  refine TL.v (Val.assign rfl) ?_
  refine TL.v (Val.assign rfl) ?_
  refine TL.nt ?_
  refine TC.en (E' := [(2, _), (4, _), (5, _), (6, _), (7, _)]) ?_
  refine TC.seq ?_
  refine TC.sr ?_
  refine TL.v (Val.move rfl) ?_
  refine TL.v (Val.neqI rfl rfl) ?_
  refine TL.nt ?_
  refine TC.condP rfl (fun c1 => ?_) (fun c1 => ?_)
  · skip
    refine TC.sr ?_
    refine TL.v (Val.move rfl) ?_
    refine TL.v (Val.assign rfl) ?_
    refine TL.v (Val.assign rfl) ?_
    refine TL.nt ?_
    refine TC.r2 (M' := M) (fn := Try.f36) (fun _ _ h => h) rfl (RV.tmp rfl) (RV.tmp rfl) ?_
    exact ⟨rfl, rfl⟩
  · skip
    exact absurd c1 (by decide)

/-- (*quorumite/seal.Sealer).seal -/
theorem sSeal_no (b i : Nat) (s w g q : Int) (M : Hp) (hi : M[i]? = some (sobj b s w g q)) (hq : 0 ≤ q ∧ q ≤ 1099511627776) (m : Ms) (hm : mayM ⟨m.kind, w, m.gen, q + 1, m.epoch, m.value, m.metric⟩ = false) : FnC Try.prog 62 #[.pointer (some ⟨b, 0, none⟩), .agg #[.int .i64 m.kind, .int .i64 m.who, .int .i64 m.gen, .int .i64 m.seq, .int .i64 m.epoch, .int .i64 m.value, .int .i64 m.metric]] M (fun v M' => v = .tuple #[.slice none 0 0, .int .i64 1] ∧ M = M') := by
  refine FnC.intro Try.func62 rfl 47 rfl (by simp) (fun z => ?_)
  refine TC.env (E' := [(0, _), (1, _)]) (Sub.cons rfl (Sub.cons rfl (Sub.nil _))) ?_
  refine TC.sr ?_
  refine TL.d (Does.box rfl rfl) ?_
  rintro _ _ ⟨b1, rfl, rfl⟩
  refine TL.v (Val.assign rfl) ?_
  refine TL.v (Val.assign rfl) ?_
  refine TL.nt ?_
  refine TC.seq ?_
  refine TC.sr ?_
  refine TL.v (Val.move rfl) ?_
  refine TL.v (Val.eqlNil rfl rfl pt57) ?_
  refine TL.nt ?_
  refine TC.cond rfl (fun c1 => ?_) (fun c1 => ?_)
  · skip
    cases c1
  · skip
    refine TC.skip ?_
    refine AtX.then ?_
    refine TC.seq ?_
    refine TC.drawL M mixed 13 ?_
    refine TA.tk 0 1 rfl rfl rfl (Val.move rfl) ?_ (hro := ro_s)
    refine TA.tk 1 3 rfl rfl rfl (Val.nilCheck rfl) ?_ (hro := ro_s)
    refine TA.tk 2 7 rfl rfl rfl (Val.fieldAddr rfl fl121_1 sz3 rfl) ?_ (hro := ro_s)
    refine TA.tk 3 15 rfl rfl rfl (Val.load i rfl ag3 hi rfl) ?_ (hro := ro_s)
    refine TA.tk 4 31 rfl rfl rfl (Val.move rfl) ?_ (hro := ro_s)
    refine TA.tk 5 63 rfl rfl rfl (Val.nilCheck rfl) ?_ (hro := ro_s)
    refine TA.tk 6 127 rfl rfl rfl (Val.fieldAddr rfl fl121_3 sz92 rfl) ?_ (hro := ro_s)
    refine TA.tk 9 639 rfl rfl rfl (Val.fieldAddr rfl fl61_1 sz3 rfl) ?_ (hro := ro_s)
    refine TA.one 7 (by kernel_rfl) ?_
    refine TO.dz 767 (some 17) rfl rfl rfl rfl (Does.callF go85 rfl (aLoad_fn b 3 (i + 1) _ _ _ q _ hi rfl)) ?_
    rintro _ _ ⟨rfl, rfl⟩
    refine ⟨ro_s, ?_⟩
    refine TA.tk 8 1023 rfl rfl rfl (Val.add rfl rfl (r := q + 1) (w_i64 (by omega) (by omega))) ?_ (hro := ro_s)
    refine TA.one 10 (by kernel_rfl) ?_
    refine TO.dz 2047 none rfl rfl rfl rfl (Does.store (i := 0) rfl rfl rfl sz3 rfl rfl (by first | exact Nat.le_of_ble_eq_true rfl | decide | omega) rfl rfl) ?_
    rintro _ _ ⟨rfl, rfl⟩
    refine ⟨ro_s, ?_⟩
    refine TA.tk 11 4095 rfl rfl rfl (Val.fieldAddr rfl fl61_3 sz2 rfl) ?_ (hro := ro_s)
    refine TA.one 12 (by kernel_rfl) ?_
    refine TO.dz 8191 none rfl rfl rfl rfl (Does.store (i := 0) rfl rfl rfl sz2 rfl rfl (by first | exact Nat.le_of_ble_eq_true rfl | decide | omega) rfl rfl) ?_
    rintro _ _ ⟨rfl, rfl⟩
    refine ⟨ro_s, ?_⟩
    refine TA.done (by kernel_rfl) ?_
    refine AtX.then ?_
    refine TC.en (E' := [(0, _), (3, _), (4, _), (5, _)]) ?_
    refine TC.seq ?_
    refine TC.drawLM mixed 20 ?_
    refine TA.tk 0 1 rfl rfl rfl (Val.move rfl) ?_ (hro := ro_s)
    refine TA.tk 1 3 rfl rfl rfl (Val.nilCheck rfl) ?_ (hro := ro_s)
    refine TA.tk 2 7 rfl rfl rfl (Val.fieldAddr rfl fl121_0 sz24 rfl) ?_ (hro := ro_s)
    refine TA.tk 3 15 rfl rfl rfl (Val.load (i + 1) rfl ag24 hi rfl) ?_ (hro := ro_s)
    refine TA.tk 4 31 rfl rfl rfl (Val.move rfl) ?_ (hro := ro_s)
    refine TA.tk 5 63 rfl rfl rfl (Val.nilCheck rfl) ?_ (hro := ro_s)
    refine TA.tk 6 127 rfl rfl rfl (Val.fieldAddr rfl fl121_1 sz3 rfl) ?_ (hro := ro_s)
    refine TA.tk 7 255 rfl rfl rfl (Val.load (i + 1) rfl ag3 hi rfl) ?_ (hro := ro_s)
    refine TA.tk 8 511 rfl rfl rfl (Val.move rfl) ?_ (hro := ro_s)
    refine TA.tk 9 1023 rfl rfl rfl (Val.nilCheck rfl) ?_ (hro := ro_s)
    refine TA.tk 10 2047 rfl rfl rfl (Val.fieldAddr rfl fl121_2 sz3 rfl) ?_ (hro := ro_s)
    refine TA.tk 11 4095 rfl rfl rfl (Val.load (i + 1) rfl ag3 hi rfl) ?_ (hro := ro_s)
    refine TA.tk 13 12287 rfl rfl rfl (Val.loadAgg 0 rfl ag61 sz61 rfl rfl rfl) ?_ (hro := ro_s)
    refine TA.one 12 (by kernel_rfl) ?_
    refine TO.dz 16383 (some 34) rfl rfl rfl rfl (Does.callF go37 rfl (Of_fn s w g _)) ?_
    rintro _ _ ⟨rfl, rfl⟩
    refine ⟨ro_s, ?_⟩
    refine TA.one 14 (by kernel_rfl) ?_
    refine TO.dz 32767 (some 36) rfl rfl rfl rfl (Does.callF go36 rfl (wSeal_no (macKey s w g) ⟨m.kind, w, m.gen, q + 1, m.epoch, m.value, m.metric⟩ _ hm)) ?_
    rintro _ _ ⟨rfl, rfl⟩
    refine ⟨ro_s, ?_⟩
    refine TA.tk 15 65535 rfl rfl rfl (Val.move rfl) ?_ (hro := ro_s)
    refine TA.tk 16 131071 rfl rfl rfl (Val.extract rfl rfl) ?_ (hro := ro_s)
    refine TA.tk 17 262143 rfl rfl rfl (Val.extract rfl rfl) ?_ (hro := ro_s)
    refine TA.tk 18 524287 rfl rfl rfl (Val.assign rfl) ?_ (hro := ro_s)
    refine TA.tk 19 1048575 rfl rfl rfl (Val.assign rfl) ?_ (hro := ro_s)
    refine TA.done (by kernel_rfl) ?_
    refine AtX.then ?_
    refine TC.en (E' := [(0, _), (4, _), (5, _), (6, _), (7, _)]) ?_
    refine TC.seq ?_
    refine TC.sr ?_
    refine TL.v (Val.move rfl) ?_
    refine TL.v (Val.eqlI rfl rfl) ?_
    refine TL.nt ?_
    refine TC.condP rfl (fun c2 => ?_) (fun c2 => ?_)
    · skip
      exact absurd c2 (by decide)
    · skip
      refine TC.skip ?_
      refine AtX.then ?_
      refine TC.sr ?_
      refine TL.v (Val.move rfl) ?_
      refine TL.v (Val.move rfl) ?_
      refine TL.v (Val.assign rfl) ?_
      refine TL.v (Val.assign rfl) ?_
      refine TL.nt ?_
      refine TC.r2 (M' := M) (fn := Try.f62) (fun _ _ h => h) rfl (RV.tmp rfl) (RV.tmp rfl) ?_
      exact ⟨rfl, rfl⟩

/-- (*quorumite/seal.Sealer).Rotate -/
theorem sRotate_no (b i : Nat) (s w g q : Int) (M : Hp) (hi : M[i]? = some (sobj b s w g q)) (hq : 0 ≤ q ∧ q ≤ 1099511627776) (hg : -1 ≤ g ∧ g ≤ 1000000) (e : Int) (hm : mayM ⟨2, w, g + 1, q + 1, e, 0, 0⟩ = false) : FnC Try.prog 34 #[.pointer (some ⟨b, 0, none⟩), .int .i64 e] M (fun v M' => v = .tuple #[.slice none 0 0, .int .i64 1] ∧ M = M') := by
  refine FnC.intro Try.func34 rfl 33 rfl (by simp) (fun z => ?_)
  refine TC.env (E' := [(0, _), (1, _)]) (Sub.cons rfl (Sub.cons rfl (Sub.nil _))) ?_
  refine TC.sr ?_
  refine TL.v (Val.assign rfl) ?_
  refine TL.v (Val.assign rfl) ?_
  refine TL.nt ?_
  refine TC.sr ?_
  refine TL.v (Val.move rfl) ?_
  refine TL.v (Val.move rfl) ?_
  refine TL.d (Does.callF go48 rfl (Gen_fn b i s w g q _ hi)) ?_
  rintro _ _ ⟨rfl, rfl⟩
  refine TL.v (Val.add rfl rfl (r := g + 1) (w_i64 (by omega) (by omega))) ?_
  refine TL.v (Val.move rfl) ?_
  refine TL.v (Val.buildS pl61 ze61 rfl rfl) ?_
  refine TL.d (Does.callF go62 rfl (sSeal_no b i s w g q _ hi hq ⟨2, 0, g + 1, 0, e, 0, 0⟩ hm)) ?_
  rintro _ _ ⟨rfl, rfl⟩
  refine TL.v (Val.move rfl) ?_
  refine TL.v (Val.extract rfl rfl) ?_
  refine TL.v (Val.extract rfl rfl) ?_
  refine TL.v (Val.assign rfl) ?_
  refine TL.v (Val.assign rfl) ?_
  refine TL.nt ?_
  refine TC.en (E' := [(0, _), (4, _), (5, _), (6, _), (7, _)]) ?_
  refine TC.seq ?_
  refine TC.sr ?_
  refine TL.v (Val.move rfl) ?_
  refine TL.v (Val.eqlI rfl rfl) ?_
  refine TL.nt ?_
  refine TC.condP rfl (fun c1 => ?_) (fun c1 => ?_)
  · skip
    exact absurd c1 (by decide)
  · skip
    refine TC.skip ?_
    refine AtX.then ?_
    refine TC.sr ?_
    refine TL.v (Val.move rfl) ?_
    refine TL.v (Val.move rfl) ?_
    refine TL.v (Val.assign rfl) ?_
    refine TL.v (Val.assign rfl) ?_
    refine TL.nt ?_
    refine TC.r2 (M' := M) (fn := Try.f34) (fun _ _ h => h) rfl (RV.tmp rfl) (RV.tmp rfl) ?_
    exact ⟨rfl, rfl⟩

/-- (*quorumite/adverse.World).Rotate -/
theorem Rotate_out (b i : Nat) (c : Cf) (A : Option Addr) (nl cl bb N : Nat) (σ : Sl) (nk : Nat) (n : Int) (H : Hp) (hi : H[i]? = some (wob b c A nl cl bb N σ nk n)) (k : Int) (hk : k < 0 ∨ (nl : Int) ≤ k) (e : Int) : FnC Try.prog 20 #[.pointer (some ⟨b, 0, none⟩), .int .i64 k, .int .i64 e] H (fun u M' => u = .tuple #[.slice none 0 0, .int .i64 3] ∧ H = M') := by
  refine FnC.intro Try.func20 rfl 30 rfl (by simp) (fun z => ?_)
  refine TC.env (E' := [(0, _), (1, _), (2, _)]) (Sub.cons rfl (Sub.cons rfl (Sub.cons rfl (Sub.nil _)))) ?_
  refine TC.sr ?_
  refine TL.v (Val.assign rfl) ?_
  refine TL.v (Val.assign rfl) ?_
  refine TL.nt ?_
  refine TC.seq ?_
  refine TC.sr ?_
  refine TL.v (Val.move rfl) ?_
  refine TL.v (Val.move rfl) ?_
  refine TL.d (Does.callF go46 rfl (has_no b i c A nl cl bb N σ nk n _ hi k hk)) ?_
  rintro _ _ ⟨rfl, rfl⟩
  refine TL.v (Val.assign rfl) ?_
  refine TL.nt ?_
  refine TC.sr ?_
  refine TL.v (Val.move rfl) ?_
  refine TL.v (Val.neqI rfl rfl) ?_
  refine TL.nt ?_
  refine TC.condP rfl (fun c1 => ?_) (fun c1 => ?_)
  · skip
    refine TC.sr ?_
    refine TL.v (Val.move rfl) ?_
    refine TL.v (Val.assign rfl) ?_
    refine TL.v (Val.assign rfl) ?_
    refine TL.nt ?_
    refine TC.r2 (hM := (fun _ h => h)) (fn := Try.f20) (fun _ _ h => h) rfl (RV.tmp rfl) (RV.tmp rfl) ?_
    exact ⟨rfl, rfl⟩
  · skip
    exact absurd c1 (by decide)

/-- (*quorumite/adverse.World).Corrupt -/
theorem Corrupt_out (b i : Nat) (c : Cf) (A : Option Addr) (nl cl bb N : Nat) (σ : Sl) (nk : Nat) (n : Int) (H : Hp) (hi : H[i]? = some (wob b c A nl cl bb N σ nk n)) (k : Int) (hk : k < 0 ∨ (nl : Int) ≤ k)  : FnC Try.prog 14 #[.pointer (some ⟨b, 0, none⟩), .int .i64 k] H (fun u M' => u = .int .i64 3 ∧ H = M') := by
  refine FnC.intro Try.func14 rfl 37 rfl (by simp) (fun z => ?_)
  refine TC.env (E' := [(0, _), (1, _)]) (Sub.cons rfl (Sub.cons rfl (Sub.nil _))) ?_
  refine TC.sr ?_
  refine TL.v (Val.assign rfl) ?_
  refine TL.nt ?_
  refine TC.seq ?_
  refine TC.sr ?_
  refine TL.v (Val.move rfl) ?_
  refine TL.v (Val.move rfl) ?_
  refine TL.d (Does.callF go46 rfl (has_no b i c A nl cl bb N σ nk n _ hi k hk)) ?_
  rintro _ _ ⟨rfl, rfl⟩
  refine TL.v (Val.assign rfl) ?_
  refine TL.nt ?_
  refine TC.sr ?_
  refine TL.v (Val.move rfl) ?_
  refine TL.v (Val.neqI rfl rfl) ?_
  refine TL.nt ?_
  refine TC.condP rfl (fun c1 => ?_) (fun c1 => ?_)
  · skip
    refine TC.sr ?_
    refine TL.v (Val.move rfl) ?_
    refine TL.v (Val.assign rfl) ?_
    refine TL.nt ?_
    refine TC.r1 (hM := (fun _ h => h)) (fn := Try.f14) (fun _ _ h => h) rfl (RV.tmp rfl) ?_
    exact ⟨rfl, rfl⟩
  · skip
    exact absurd c1 (by decide)

/-- (*quorumite/adverse.World).Forge -/
theorem Forge_out (b i : Nat) (c : Cf) (A : Option Addr) (nl cl bb N : Nat) (σ : Sl) (nk : Nat) (n : Int) (H : Hp) (hi : H[i]? = some (wob b c A nl cl bb N σ nk n)) (k : Int) (hk : k < 0 ∨ (nl : Int) ≤ k) (me e v sq gn : Int) : FnC Try.prog 23 #[.pointer (some ⟨b, 0, none⟩), .int .i64 k, .int .i64 me, .int .i64 e, .int .i64 v, .int .i64 sq, .int .i64 gn] H (fun u M' => u = .tuple #[.slice none 0 0, .int .i64 3] ∧ H = M') := by
  refine FnC.intro Try.func23 rfl 53 rfl (by simp) (fun z => ?_)
  refine TC.env (E' := [(0, _), (1, _), (2, _), (3, _), (4, _), (5, _), (6, _)]) (Sub.cons rfl (Sub.cons rfl (Sub.cons rfl (Sub.cons rfl (Sub.cons rfl (Sub.cons rfl (Sub.cons rfl (Sub.nil _)))))))) ?_
  refine TC.sr ?_
  refine TL.v (Val.assign rfl) ?_
  refine TL.v (Val.assign rfl) ?_
  refine TL.nt ?_
  refine TC.seq ?_
  refine TC.sr ?_
  refine TL.v (Val.move rfl) ?_
  refine TL.v (Val.move rfl) ?_
  refine TL.d (Does.callF go46 rfl (has_no b i c A nl cl bb N σ nk n _ hi k hk)) ?_
  rintro _ _ ⟨rfl, rfl⟩
  refine TL.v (Val.assign rfl) ?_
  refine TL.nt ?_
  refine TC.sr ?_
  refine TL.v (Val.move rfl) ?_
  refine TL.v (Val.neqI rfl rfl) ?_
  refine TL.nt ?_
  refine TC.condP rfl (fun c1 => ?_) (fun c1 => ?_)
  · skip
    refine TC.sr ?_
    refine TL.v (Val.move rfl) ?_
    refine TL.v (Val.assign rfl) ?_
    refine TL.v (Val.assign rfl) ?_
    refine TL.nt ?_
    refine TC.r2 (hM := (fun _ h => h)) (fn := Try.f23) (fun _ _ h => h) rfl (RV.tmp rfl) (RV.tmp rfl) ?_
    exact ⟨rfl, rfl⟩
  · skip
    exact absurd c1 (by decide)

/-- (*quorumite/adverse.World).Rotate -/
theorem Rotate_yes (b i : Nat) (c : Cf) (A : Option Addr) (nl cl bb N : Nat) (σ : Sl) (nk : Nat) (n : Int) (H : Hp) (hi : H[i]? = some (wob b c A nl cl bb N σ nk n)) (jl js : Nat) (bl sb : Nat) (ps spl : List Value) (hpl : ps.length = nl) (hA : A = some ⟨bl, 0, none⟩) (hlr : H[jl]? = some (bl, row 57 (ps ++ spl))) (hji : jl ≠ i) (k : Nat) (hp : ps[k]? = some (.pointer (some ⟨sb, 0, none⟩))) (s g q : Int) (hs : H[js]? = some (sobj sb s (k : Nat) g q)) (hsi : js ≠ i) (hn : 0 ≤ n ∧ n ≤ 1000000) (e : Int) (hm : mayM ⟨2, (k : Nat), g + 1, q + 1, e, 0, 0⟩ = true) : FnC Try.prog 20 #[.pointer (some ⟨b, 0, none⟩), .int .i64 (k : Nat), .int .i64 e] H (fun u M' => ∃ bE c' sp, u = .tuple #[.slice (some ⟨bE, 0, none⟩) 48 c', .int .i64 0] ∧ M' = (bE, row 5 (bv (sealB (macKey s (k : Nat) g) ⟨2, (k : Nat), g + 1, q + 1, e, 0, 0⟩) ++ sp)) :: (H.set i (wob b c (some ⟨bl, 0, none⟩) nl cl bb N σ nk (n + 1))).set js (sobj sb s (k : Nat) (g + 1) 0)) := by
  subst hA
  subst hpl
  have hkp : k < ps.length := (List.getElem?_eq_some_iff.1 hp).1
  have hlt : i < H.length := (List.getElem?_eq_some_iff.1 hi).1
  obtain ⟨H2, hH2⟩ : ∃ H2, H2 = H.set i (wob b c (some ⟨bl, 0, none⟩) ps.length cl bb N σ nk (n + 1)) := ⟨_, rfl⟩
  have hi2 : H2[i]? = some (wob b c (some ⟨bl, 0, none⟩) ps.length cl bb N σ nk (n + 1)) := by rw [hH2]; exact List.getElem?_set_self hlt
  have hl2 : H2[jl]? = some (bl, row 57 (ps ++ spl)) := by rw [hH2, List.getElem?_set_ne (Ne.symm hji)]; exact hlr
  have hs2 : H2[js]? = some (sobj sb s (k : Nat) g q) := by rw [hH2, List.getElem?_set_ne (Ne.symm hsi)]; exact hs
  have hR2 := rd_row0 hl2
  rw [← hH2]
  refine FnC.intro Try.func20 rfl 30 rfl (by simp) (fun z => ?_)
  refine TC.env (E' := [(0, _), (1, _), (2, _)]) (Sub.cons rfl (Sub.cons rfl (Sub.cons rfl (Sub.nil _)))) ?_
  refine TC.sr ?_
  refine TL.v (Val.assign rfl) ?_
  refine TL.v (Val.assign rfl) ?_
  refine TL.nt ?_
  refine TC.seq ?_
  refine TC.sr ?_
  refine TL.v (Val.move rfl) ?_
  refine TL.v (Val.move rfl) ?_
  refine TL.d (Does.callF go46 rfl (has_ok b i c (some ⟨bl, 0, none⟩) ps.length cl bb N σ nk n _ hi k hkp)) ?_
  rintro _ _ ⟨rfl, rfl⟩
  refine TL.v (Val.assign rfl) ?_
  refine TL.nt ?_
  refine TC.sr ?_
  refine TL.v (Val.move rfl) ?_
  refine TL.v (Val.neqI rfl rfl) ?_
  refine TL.nt ?_
  refine TC.condP rfl (fun c1 => ?_) (fun c1 => ?_)
  · skip
    exact absurd rfl c1
  · skip
    refine TC.skip ?_
    refine AtX.then ?_
    refine TC.sr ?_
    refine TL.v (Val.move rfl) ?_
    refine TL.v (Val.nilCheck rfl) ?_
    refine TL.v (Val.fieldAddr rfl fl94_4 sz92 rfl) ?_
    refine TL.d (Does.callF go52 rfl (aAdd_fn b 29 i _ _ n 1 (n + 1) _ hi rfl (w_i64 (by omega) (by omega)))) ?_
    rintro _ _ ⟨rfl, rfl⟩
    refine TL.nt ?_
    refine TC.en (E' := [(0, _), (1, _), (2, _), (6, _), (7, _)]) ?_
    refine TC.seq ?_
    refine TC.heap (M' := H2) (fun w h => by rw [hH2]; exact h) ?_
    refine TC.region ?_
    refine TL.v (Val.move rfl) ?_
    refine TL.v (Val.nilCheck rfl) ?_
    refine TL.v (Val.fieldAddr rfl fl94_1 sz86 rfl) ?_
    refine TL.v (Val.load i rfl ag86 hi2 rfl) ?_
    refine TL.v (Val.move rfl) ?_
    refine TL.v (Val.indexAddr (i := k) (r := k) rfl rfl sl86 sz57 rfl hkp (by omega)) ?_
    refine TL.v (Val.loadRd (o := 0) (j := k) rfl ag57 hR2 (by omega) hp) ?_
    refine TL.v (Val.move rfl) ?_
    refine TL.d (Does.callF go34 rfl (sRotate_fn sb js s (k : Nat) g q e _ hs2 hm)) ?_
    rintro _ _ ⟨bE, cE, spE, rfl, hcE, rfl⟩
    refine TL.v (Val.extract rfl rfl) ?_
    refine TL.v (Val.extract rfl rfl) ?_
    refine TL.v (Val.assign rfl) ?_
    refine TL.v (Val.assign rfl) ?_
    refine TL.nt ?_
    refine TC.en (E' := [(6, _), (7, _)]) ?_
    refine TC.r2 (hM := (fun _ h => h)) (fn := Try.f20) (fun _ _ h => h) rfl (RV.tmp rfl) (RV.tmp rfl) ?_
    exact ⟨bE, _, spE, rfl, rfl⟩

/-- (*quorumite/adverse.World).Rotate -/
theorem Rotate_no (b i : Nat) (c : Cf) (A : Option Addr) (nl cl bb N : Nat) (σ : Sl) (nk : Nat) (n : Int) (H : Hp) (hi : H[i]? = some (wob b c A nl cl bb N σ nk n)) (jl js : Nat) (bl sb : Nat) (ps spl : List Value) (hpl : ps.length = nl) (hA : A = some ⟨bl, 0, none⟩) (hlr : H[jl]? = some (bl, row 57 (ps ++ spl))) (hji : jl ≠ i) (k : Nat) (hp : ps[k]? = some (.pointer (some ⟨sb, 0, none⟩))) (s g q : Int) (hs : H[js]? = some (sobj sb s (k : Nat) g q)) (hsi : js ≠ i) (hn : 0 ≤ n ∧ n ≤ 1000000) (hq : 0 ≤ q ∧ q ≤ 1099511627776) (hg : -1 ≤ g ∧ g ≤ 1000000) (e : Int) (hm : mayM ⟨2, (k : Nat), g + 1, q + 1, e, 0, 0⟩ = false) : FnC Try.prog 20 #[.pointer (some ⟨b, 0, none⟩), .int .i64 (k : Nat), .int .i64 e] H (fun u M' => u = .tuple #[.slice none 0 0, .int .i64 1] ∧ M' = H.set i (wob b c (some ⟨bl, 0, none⟩) nl cl bb N σ nk (n + 1))) := by
  subst hA
  subst hpl
  have hkp : k < ps.length := (List.getElem?_eq_some_iff.1 hp).1
  have hlt : i < H.length := (List.getElem?_eq_some_iff.1 hi).1
  obtain ⟨H2, hH2⟩ : ∃ H2, H2 = H.set i (wob b c (some ⟨bl, 0, none⟩) ps.length cl bb N σ nk (n + 1)) := ⟨_, rfl⟩
  have hi2 : H2[i]? = some (wob b c (some ⟨bl, 0, none⟩) ps.length cl bb N σ nk (n + 1)) := by rw [hH2]; exact List.getElem?_set_self hlt
  have hl2 : H2[jl]? = some (bl, row 57 (ps ++ spl)) := by rw [hH2, List.getElem?_set_ne (Ne.symm hji)]; exact hlr
  have hs2 : H2[js]? = some (sobj sb s (k : Nat) g q) := by rw [hH2, List.getElem?_set_ne (Ne.symm hsi)]; exact hs
  have hR2 := rd_row0 hl2
  rw [← hH2]
  refine FnC.intro Try.func20 rfl 30 rfl (by simp) (fun z => ?_)
  refine TC.env (E' := [(0, _), (1, _), (2, _)]) (Sub.cons rfl (Sub.cons rfl (Sub.cons rfl (Sub.nil _)))) ?_
  refine TC.sr ?_
  refine TL.v (Val.assign rfl) ?_
  refine TL.v (Val.assign rfl) ?_
  refine TL.nt ?_
  refine TC.seq ?_
  refine TC.sr ?_
  refine TL.v (Val.move rfl) ?_
  refine TL.v (Val.move rfl) ?_
  refine TL.d (Does.callF go46 rfl (has_ok b i c (some ⟨bl, 0, none⟩) ps.length cl bb N σ nk n _ hi k hkp)) ?_
  rintro _ _ ⟨rfl, rfl⟩
  refine TL.v (Val.assign rfl) ?_
  refine TL.nt ?_
  refine TC.sr ?_
  refine TL.v (Val.move rfl) ?_
  refine TL.v (Val.neqI rfl rfl) ?_
  refine TL.nt ?_
  refine TC.condP rfl (fun c1 => ?_) (fun c1 => ?_)
  · skip
    exact absurd rfl c1
  · skip
    refine TC.skip ?_
    refine AtX.then ?_
    refine TC.sr ?_
    refine TL.v (Val.move rfl) ?_
    refine TL.v (Val.nilCheck rfl) ?_
    refine TL.v (Val.fieldAddr rfl fl94_4 sz92 rfl) ?_
    refine TL.d (Does.callF go52 rfl (aAdd_fn b 29 i _ _ n 1 (n + 1) _ hi rfl (w_i64 (by omega) (by omega)))) ?_
    rintro _ _ ⟨rfl, rfl⟩
    refine TL.nt ?_
    refine TC.en (E' := [(0, _), (1, _), (2, _), (6, _), (7, _)]) ?_
    refine TC.seq ?_
    refine TC.heap (M' := H2) (fun w h => by rw [hH2]; exact h) ?_
    refine TC.region ?_
    refine TL.v (Val.move rfl) ?_
    refine TL.v (Val.nilCheck rfl) ?_
    refine TL.v (Val.fieldAddr rfl fl94_1 sz86 rfl) ?_
    refine TL.v (Val.load i rfl ag86 hi2 rfl) ?_
    refine TL.v (Val.move rfl) ?_
    refine TL.v (Val.indexAddr (i := k) (r := k) rfl rfl sl86 sz57 rfl hkp (by omega)) ?_
    refine TL.v (Val.loadRd (o := 0) (j := k) rfl ag57 hR2 (by omega) hp) ?_
    refine TL.v (Val.move rfl) ?_
    refine TL.d (Does.callF go34 rfl (sRotate_no sb js s (k : Nat) g q _ hs2 hq hg e hm)) ?_
    rintro _ _ ⟨rfl, rfl⟩
    refine TL.v (Val.extract rfl rfl) ?_
    refine TL.v (Val.extract rfl rfl) ?_
    refine TL.v (Val.assign rfl) ?_
    refine TL.v (Val.assign rfl) ?_
    refine TL.nt ?_
    refine TC.en (E' := [(6, _), (7, _)]) ?_
    refine TC.r2 (hM := (fun _ h => h)) (fn := Try.f20) (fun _ _ h => h) rfl (RV.tmp rfl) (RV.tmp rfl) ?_
    refine ⟨rfl, ?_⟩
    rw [hH2]

/-- (*quorumite/adverse.World).Forge -/
theorem Forge_bad (b i j : Nat) (c : Cf) (A : Option Addr) (nl cl bb : Nat) (σ : Sl) (nk : Nat) (n : Int) (l : List Bool) (H : Hp) (hi : H[i]? = some (wob b c A nl cl bb l.length σ nk n)) (hj : H[j]? = some (bb, row 4 (l.map Value.bool))) (hnl : nl = l.length) (k : Nat) (hk : k < nl) (hx : l[k]? = some true) (hn : 0 ≤ n ∧ n ≤ 1000000) (me e v sq gn : Int) (hm : mayM ⟨1, (k : Nat), gn, sq, e, v, me⟩ = false) : FnC Try.prog 23 #[.pointer (some ⟨b, 0, none⟩), .int .i64 ((k : Nat) : Int), .int .i64 me, .int .i64 e, .int .i64 v, .int .i64 sq, .int .i64 gn] H (fun u M' => u = .tuple #[.slice none 0 0, .int .i64 1] ∧ M' = H.set i (wob b c A nl cl bb l.length σ nk (n + 1))) := by
  have hR := rd_rowA hj
  have hlt : i < H.length := (List.getElem?_eq_some_iff.1 hi).1
  refine FnC.intro Try.func23 rfl 53 rfl (by simp) (fun z => ?_)
  refine TC.env (E' := [(0, _), (1, _), (2, _), (3, _), (4, _), (5, _), (6, _)]) (Sub.cons rfl (Sub.cons rfl (Sub.cons rfl (Sub.cons rfl (Sub.cons rfl (Sub.cons rfl (Sub.cons rfl (Sub.nil _)))))))) ?_
  refine TC.sr ?_
  refine TL.v (Val.assign rfl) ?_
  refine TL.v (Val.assign rfl) ?_
  refine TL.nt ?_
  refine TC.seq ?_
  refine TC.sr ?_
  refine TL.v (Val.move rfl) ?_
  refine TL.v (Val.move rfl) ?_
  refine TL.d (Does.callF go46 rfl (has_ok b i c A nl cl bb l.length σ nk n _ hi k hk)) ?_
  rintro _ _ ⟨rfl, rfl⟩
  refine TL.v (Val.assign rfl) ?_
  refine TL.nt ?_
  refine TC.sr ?_
  refine TL.v (Val.move rfl) ?_
  refine TL.v (Val.neqI rfl rfl) ?_
  refine TL.nt ?_
  refine TC.condP rfl (fun c1 => ?_) (fun c1 => ?_)
  · skip
    exact absurd rfl c1
  · skip
    refine TC.skip ?_
    refine AtX.then ?_
    refine TC.seq ?_
    refine TC.sr ?_
    refine TL.v (Val.move rfl) ?_
    refine TL.v (Val.nilCheck rfl) ?_
    refine TL.v (Val.fieldAddr rfl fl94_2 sz85 rfl) ?_
    refine TL.v (Val.load i rfl ag85 hi rfl) ?_
    refine TL.v (Val.move rfl) ?_
    refine TL.v (Val.indexAddr (i := k) (r := k) rfl rfl sl85 sz4 rfl (by omega) (by omega)) ?_
    refine TL.v (Val.loadRd (o := 0) (j := k) (v := .bool true) rfl ag4 hR (by omega) (map_get hx)) ?_
    refine TL.v (Val.not rfl) ?_
    refine TL.nt ?_
    refine TC.en (E' := [(0, _), (1, _), (2, _), (3, _), (4, _), (5, _), (6, _), (14, _), (15, _), (30, _)]) ?_
    refine TC.condB rfl (fun c2 => ?_) (fun c2 => ?_)
    · skip
      cases c2
    · skip
      refine TC.skip ?_
      refine AtX.then ?_
      refine TC.sr ?_
      refine TL.v (Val.move rfl) ?_
      refine TL.v (Val.nilCheck rfl) ?_
      refine TL.v (Val.fieldAddr rfl fl94_4 sz92 rfl) ?_
      refine TL.d (Does.callF go52 rfl (aAdd_fn b 29 i _ _ n 1 (n + 1) _ hi rfl (w_i64 (by omega) (by omega)))) ?_
      rintro _ _ ⟨rfl, rfl⟩
      refine TL.nt ?_
      refine TC.seq ?_
      refine TC.heap (M' := H.set i (wob b c A nl cl bb l.length σ nk (n + 1))) (fun w h => h) ?_
      have hi2 : (H.set i (wob b c A nl cl bb l.length σ nk (n + 1)))[i]? = some (wob b c A nl cl bb l.length σ nk (n + 1)) := by simp [hlt]
      refine TC.region ?_
      refine TL.v (Val.move rfl) ?_
      refine TL.v (Val.nilCheck rfl) ?_
      refine TL.v (Val.fieldAddr rfl fl94_0 sz26 rfl) ?_
      refine TL.v (Val.fieldAddr rfl fl26_22 sz24 rfl) ?_
      refine TL.v (Val.load i rfl ag24 hi2 rfl) ?_
      refine TL.v (Val.move rfl) ?_
      refine TL.v (Val.move rfl) ?_
      refine TL.d (Does.callF go37 rfl (Of_fn c.seed (k : Nat) gn _)) ?_
      rintro _ _ ⟨rfl, rfl⟩
      refine TL.v (Val.move rfl) ?_
      refine TL.v (Val.move rfl) ?_
      refine TL.v (Val.move rfl) ?_
      refine TL.v (Val.move rfl) ?_
      refine TL.v (Val.move rfl) ?_
      refine TL.v (Val.move rfl) ?_
      refine TL.v (Val.buildS pl61 ze61 rfl rfl) ?_
      refine TL.d (Does.callF go36 rfl (wSeal_no (macKey c.seed (k : Nat) gn) ⟨1, (k : Nat), gn, sq, e, v, me⟩ _ hm)) ?_
      rintro _ _ ⟨rfl, rfl⟩
      refine TL.v (Val.extract rfl rfl) ?_
      refine TL.v (Val.extract rfl rfl) ?_
      refine TL.v (Val.assign rfl) ?_
      refine TL.v (Val.assign rfl) ?_
      refine TL.nt ?_
      refine TC.en (E' := [(14, _), (15, _)]) ?_
      refine TC.r2 (hM := (fun _ h => h)) (fn := Try.f23) (fun _ _ h => h) rfl (RV.tmp rfl) (RV.tmp rfl) ?_
      exact ⟨rfl, rfl⟩

/-- (*quorumite/adverse.World).Sample -/
theorem wSample_arg (b bl cl bb : Nat) (c : Cf) (σ : Sl) (kept : List Smp) (n : Int) (l : List Bool) (ps spl : List Value) (jb jl js : Nat) (H0 : Hp) (hb : H0[jb]? = some (bb, row 4 (l.map Value.bool))) (hl : H0[jl]? = some (bl, row 57 (ps ++ spl))) (hpl : ps.length = l.length) (sb k : Nat) (s g q : Int) (hp : ps[k]? = some (.pointer (some ⟨sb, 0, none⟩))) (hs : H0[js]? = some (sobj sb s (k : Nat) g q)) (hok : slOk σ 4 kept.length (kept.flatMap Smp.cs)) (hkl : kept.length ≤ 1000) (hn : 0 ≤ n ∧ n ≤ 1000000) (me e v : Int) (hm : mayM ⟨1, (k : Nat), g, q + 1, e, v, me⟩ = false) (hqb : 0 ≤ q ∧ q ≤ 1099511627776)  : FnC Try.prog 16 #[.pointer (some ⟨b, 0, none⟩), .int .i64 ((k : Nat) : Int), .int .i64 me, .int .i64 e, .int .i64 v] (wob b c (some ⟨bl, 0, none⟩) ps.length cl bb l.length σ kept.length n :: (slH σ 100 (kept.flatMap Smp.cs) ++ H0)) (fun u M' => u = .tuple #[.slice none 0 0, .int .i64 1] ∧ (wob b c (some ⟨bl, 0, none⟩) ps.length cl bb l.length σ kept.length n :: (slH σ 100 (kept.flatMap Smp.cs) ++ H0)) = M') := by
  have hk2 : k < ps.length := (List.getElem?_eq_some_iff.1 hp).1
  have hRl := rd_row0 hl
  have hRb := rd_rowA hb
  have hRk : RdS (slH σ 100 (kept.flatMap Smp.cs) ++ H0) (slA σ) (kept.flatMap Smp.cs) := rdS_opt hok
  refine FnC.intro Try.func16 rfl 78 rfl (by simp) (fun z => ?_)
  refine TC.env (E' := [(0, _), (1, _), (2, _), (3, _), (4, _)]) (Sub.cons rfl (Sub.cons rfl (Sub.cons rfl (Sub.cons rfl (Sub.cons rfl (Sub.nil _)))))) ?_
  refine TC.sr ?_
  refine TL.d (Does.box rfl rfl) ?_
  rintro _ _ ⟨b1, rfl, rfl⟩
  refine TL.d (Does.box rfl rfl) ?_
  rintro _ _ ⟨b2, rfl, rfl⟩
  refine TL.d (Does.box rfl rfl) ?_
  rintro _ _ ⟨b3, rfl, rfl⟩
  refine TL.v (Val.assign rfl) ?_
  refine TL.v (Val.assign rfl) ?_
  refine TL.nt ?_
  refine TC.seq ?_
  refine TC.sr ?_
  refine TL.v (Val.move rfl) ?_
  refine TL.v (Val.load 2 rfl ag3 rfl rfl) ?_
  refine TL.d (Does.callF go46 rfl (has_ok b 3 c _ ps.length cl bb l.length σ kept.length n _ rfl k hk2)) ?_
  rintro _ _ ⟨rfl, rfl⟩
  refine TL.v (Val.assign rfl) ?_
  refine TL.nt ?_
  refine TC.sr ?_
  refine TL.v (Val.move rfl) ?_
  refine TL.v (Val.neqI rfl rfl) ?_
  refine TL.nt ?_
  refine TC.condP rfl (fun c1 => ?_) (fun c1 => ?_)
  · skip
    exact absurd rfl c1
  · skip
    refine TC.en (E' := [(0, _), (4, _), (6, _), (7, _), (8, _), (10, _), (11, _)]) ?_
    refine TC.skip ?_
    refine AtX.then ?_
    refine TC.seq ?_
    refine TC.drawLM mixed 8 ?_
    refine TA.tk 0 1 rfl rfl rfl (Val.move rfl) ?_
    refine TA.tk 1 3 rfl rfl rfl (Val.nilCheck rfl) ?_
    refine TA.tk 2 7 rfl rfl rfl (Val.fieldAddr rfl fl94_1 sz86 rfl) ?_
    refine TA.tk 3 15 rfl rfl rfl (Val.load 3 rfl ag86 rfl rfl) ?_
    refine TA.tk 4 31 rfl rfl rfl (Val.load 2 rfl ag3 rfl rfl) ?_
    refine TA.tk 5 63 rfl rfl rfl (Val.indexAddr (i := k) (r := k) rfl rfl sl86 sz57 rfl hk2 (by omega)) ?_
    refine TA.tk 6 127 rfl rfl rfl (Val.loadRd (o := 0) (j := k) rfl ag57 (Rd.cons _ (Rd.cons _ (Rd.cons _ (Rd.cons _ (Rd.app _ hRl))))) (by omega) hp) ?_
    refine TA.tk 7 255 rfl rfl rfl (Val.assign rfl) ?_
    refine TA.done (by kernel_rfl) ?_
    refine AtX.then ?_
    refine TC.seq ?_
    refine TC.seq ?_
    refine TC.drawLM mixed 12 ?_
    refine TA.tk 0 1 rfl rfl rfl (Val.load 2 rfl ag3 rfl rfl) ?_
    refine TA.tk 1 3 rfl rfl rfl (Val.move rfl) ?_
    refine TA.tk 3 11 rfl rfl rfl (Val.move rfl) ?_
    refine TA.tk 6 75 rfl rfl rfl (Val.load 0 rfl ag2 rfl rfl) ?_
    refine TA.tk 7 203 rfl rfl rfl (Val.move rfl) ?_
    refine TA.tk 8 459 rfl rfl rfl (Val.load 1 rfl ag3 rfl rfl) ?_
    refine TA.one 2 (by kernel_rfl) ?_
    refine TO.dz 463 (some 29) rfl rfl rfl rfl (Does.callF go48 rfl (Gen_fn sb _ s (k : Nat) g q _ (get_app4 hs))) ?_
    rintro _ _ ⟨rfl, rfl⟩
    refine roK ?_
    refine TA.one 4 (by kernel_rfl) ?_
    refine TO.dz 479 (some 31) rfl rfl rfl rfl (Does.callF go49 rfl (Seq_fn sb _ s (k : Nat) g q _ (get_app4 hs))) ?_
    rintro _ _ ⟨rfl, rfl⟩
    refine roK ?_
    refine TA.tk 5 511 rfl rfl rfl (Val.add rfl rfl (r := q + 1) (w_i64 (by omega) (by omega))) ?_
    refine TA.tk 9 1023 rfl rfl rfl (Val.buildS pl61 ze61 rfl rfl) ?_
    refine TA.one 10 (by kernel_rfl) ?_
    refine TO.dz 2047 (some 37) rfl rfl rfl rfl (Does.callF go47 rfl (May_fn ⟨1, (k : Nat), g, q + 1, e, v, me⟩ _)) ?_
    rintro _ _ ⟨gm, rfl, hgm, rfl⟩
    refine roK ?_
    refine TA.tk 11 4095 rfl rfl rfl (Val.not rfl) ?_
    refine TA.done (by kernel_rfl) ?_
    refine AtX.then ?_
    refine TC.en (E' := [(0, _), (4, _), (6, _), (7, _), (8, _), (10, _), (11, _), (13, _), (38, _)]) ?_
    refine TC.condB rfl (fun c2 => ?_) (fun c2 => ?_)
    · skip
      refine TC.sr ?_
      refine TL.v (Val.assign rfl) ?_
      refine TL.v (Val.assign rfl) ?_
      refine TL.nt ?_
      refine TC.r2 (M' := (wob b c (some ⟨bl, 0, none⟩) ps.length cl bb l.length σ kept.length n :: (slH σ 100 (kept.flatMap Smp.cs) ++ H0))) (fn := Try.f16) (fun _ _ h => h) rfl (RV.tmp rfl) (RV.tmp rfl) ?_
      exact ⟨rfl, rfl⟩
    · skip
      (exfalso; rw [hgm, hm] at c2; cases c2)

end Go.Proofs.Ytphoapajlcaoeaa
/- walks -/
set_option linter.unusedVariables false
set_option linter.unusedSimpArgs false
set_option maxRecDepth 100000
set_option maxHeartbeats 4000000
namespace Go.Proofs.Ytphoapajlcaoeaa
open Go Go.X
structure WK where
  b : Nat
  bl : Nat
  cl : Nat
  bb : Nat
  rb : Nat
  rl : Nat
  rcl : Nat
  rbb : Nat
  bx : Nat
  spl : List Value
  rspl : List Value
  ps : List Value
  rps : List Value
  c : Cf
  N : Nat
structure WS where
  n : Int
  ss : List Sr
  rs : List Sr
  l : List Bool
  l2 : List Bool
  kept : List Smp
  kept2 : List Smp
abbrev kc (k : List Smp) : List Value := k.flatMap Smp.cs
def WH0 (K : WK) (s : WS) (τ : Sl) (T : Hp) : Hp :=
  rwo K.rb K.c (some ⟨K.rl, 0, none⟩) K.N K.rcl K.rbb K.N τ s.kept2.length :: (K.bx, .cells K.c.cs 26 (0, 0)) :: (K.bb, row 4 (s.l.map Value.bool)) :: (K.bl, row 57 (K.ps ++ K.spl)) :: (K.rbb, row 4 (s.l2.map Value.bool)) :: (K.rl, row 106 (K.rps ++ K.rspl)) :: (s.ss.map (sob K.c.seed) ++ (s.rs.map (rsob K.c.seed) ++ (slH τ 100 (kc s.kept2) ++ T)))
/-- both worlds, in a row -/
def WH (K : WK) (s : WS) (σ τ : Sl) (T : Hp) : Hp :=
  wob K.b K.c (some ⟨K.bl, 0, none⟩) K.N K.cl K.bb K.N σ s.kept.length s.n :: (slH σ 100 (kc s.kept) ++ WH0 K s τ T)
def RH0 (K : WK) (s : WS) (σ : Sl) (T : Hp) : Hp :=
  wob K.b K.c (some ⟨K.bl, 0, none⟩) K.N K.cl K.bb K.N σ s.kept.length s.n :: (K.bx, .cells K.c.cs 26 (0, 0)) :: (K.bb, row 4 (s.l.map Value.bool)) :: (K.bl, row 57 (K.ps ++ K.spl)) :: (K.rbb, row 4 (s.l2.map Value.bool)) :: (K.rl, row 106 (K.rps ++ K.rspl)) :: (s.rs.map (rsob K.c.seed) ++ (s.ss.map (sob K.c.seed) ++ (slH σ 100 (kc s.kept) ++ T)))
def RH (K : WK) (s : WS) (σ τ : Sl) (T : Hp) : Hp :=
  rwo K.rb K.c (some ⟨K.rl, 0, none⟩) K.N K.rcl K.rbb K.N τ s.kept2.length :: (slH τ 100 (kc s.kept2) ++ RH0 K s σ T)
structure OKK (K : WK) : Prop where
  c : OkC K.c
  n : K.c.n = K.N
  ps : K.ps.length = K.N
  rps : K.rps.length = K.N
structure Inv (K : WK) (i : Nat) (s : WS) : Prop where
  sl : s.ss.length = K.N
  rl : s.rs.length = K.N
  sw : ∀ (k : Nat) (r : Sr), s.ss[k]? = some r → (∃ rb, s.rs[k]? = some ⟨rb, r.w, r.g, r.q⟩) ∧ r.w = k ∧ 0 ≤ r.g ∧ r.g ≤ i ∧ 0 ≤ r.q ∧ r.q ≤ i
  sp : s.ss.map Sr.ptr = K.ps
  rp : s.rs.map Sr.ptr = K.rps
  ll : s.l.length = K.N
  l2 : s.l2 = s.l
  lb : ((bads s.l).length : Int) ≤ K.c.f
  k2 : s.kept2 = s.kept
  kl : s.kept.length ≤ i
  n : 0 ≤ s.n ∧ s.n ≤ i
theorem own_wr {z : World} {K : WK} {s : WS} {σ τ : Sl} {env T : Hp} : ∀ w, Own z w (env ++ WH K s σ τ T) → Own z w (RH K s σ τ (env ++ T)) := fun w h => by
  simp only [WH, RH, WH0, RH0] at h ⊢
  exact h.ac
theorem own_rw {z : World} {K : WK} {s : WS} {σ τ : Sl} {env T : Hp} : ∀ w, Own z w (RH K s σ τ (env ++ T)) → Own z w (env ++ WH K s σ τ T) := fun w h => by
  simp only [WH, RH, WH0, RH0] at h ⊢
  exact h.ac
theorem sob_at {ss : List Sr} {s : Int} {k : Nat} {r : Sr} {T : Hp} (h : ss[k]? = some r) : (ss.map (sob s) ++ T)[k]? = some (sobj r.b s r.w r.g r.q) := by
  rw [List.getElem?_append_left (by rw [List.length_map]; exact (List.getElem?_eq_some_iff.1 h).1), List.getElem?_map, h]; rfl
theorem rsob_at {ss : List Sr} {s : Int} {k : Nat} {r : Sr} {T : Hp} (h : ss[k]? = some r) : (ss.map (rsob s) ++ T)[k]? = some (rsO r.b s r.w r.g r.q) := by
  rw [List.getElem?_append_left (by rw [List.length_map]; exact (List.getElem?_eq_some_iff.1 h).1), List.getElem?_map, h]; rfl
theorem sob_st {ss : List Sr} {s : Int} {k : Nat} {r q : Sr} {T : Hp} (h : ss[k]? = some r) : (ss.map (sob s) ++ T).set k (sobj q.b s q.w q.g q.q) = (ss.set k q).map (sob s) ++ T := by
  rw [List.set_append_left _ _ (by rw [List.length_map]; exact (List.getElem?_eq_some_iff.1 h).1), List.map_set]
theorem rsob_st {ss : List Sr} {s : Int} {k : Nat} {r q : Sr} {T : Hp} (h : ss[k]? = some r) : (ss.map (rsob s) ++ T).set k (rsO q.b s q.w q.g q.q) = (ss.set k q).map (rsob s) ++ T := by
  rw [List.set_append_left _ _ (by rw [List.length_map]; exact (List.getElem?_eq_some_iff.1 h).1), List.map_set]
theorem WH0_set {K : WK} {s : WS} {τ : Sl} {T : Hp} {j b b0 : Nat} {w g q w0 g0 q0 : Int} (h : s.ss[j]? = some ⟨b0, w0, g0, q0⟩) : (WH0 K s τ T).set (j + 6) (sobj b K.c.seed w g q) = WH0 K ⟨s.n, s.ss.set j ⟨b, w, g, q⟩, s.rs, s.l, s.l2, s.kept, s.kept2⟩ τ T := by
  unfold WH0
  simp only [List.set_cons_succ]
  rw [sob_st (q := ⟨b, w, g, q⟩) h]
theorem RH0_set {K : WK} {s : WS} {σ : Sl} {T : Hp} {j b b0 : Nat} {w g q w0 g0 q0 : Int} (h : s.rs[j]? = some ⟨b0, w0, g0, q0⟩) : (RH0 K s σ T).set (j + 6) (rsO b K.c.seed w g q) = RH0 K ⟨s.n, s.ss, s.rs.set j ⟨b, w, g, q⟩, s.l, s.l2, s.kept, s.kept2⟩ σ T := by
  unfold RH0
  simp only [List.set_cons_succ]
  rw [rsob_st (q := ⟨b, w, g, q⟩) h]
theorem WH0_at {K : WK} {s : WS} {τ : Sl} {T : Hp} {j b0 : Nat} {w0 g0 q0 : Int} (h : s.ss[j]? = some ⟨b0, w0, g0, q0⟩) : (WH0 K s τ T)[j + 6]? = some (sobj b0 K.c.seed w0 g0 q0) := by
  unfold WH0
  simp only [List.getElem?_cons_succ]
  exact sob_at h
theorem RH0_at {K : WK} {s : WS} {σ : Sl} {T : Hp} {j b0 : Nat} {w0 g0 q0 : Int} (h : s.rs[j]? = some ⟨b0, w0, g0, q0⟩) : (RH0 K s σ T)[j + 6]? = some (rsO b0 K.c.seed w0 g0 q0) := by
  unfold RH0
  simp only [List.getElem?_cons_succ]
  exact rsob_at h
theorem WH0_2 {K : WK} {s : WS} {τ : Sl} {T : Hp} : (WH0 K s τ T)[2]? = some (K.bb, row 4 (s.l.map Value.bool)) := rfl
theorem WH0_3 {K : WK} {s : WS} {τ : Sl} {T : Hp} : (WH0 K s τ T)[3]? = some (K.bl, row 57 (K.ps ++ K.spl)) := rfl
theorem RH0_4 {K : WK} {s : WS} {σ : Sl} {T : Hp} : (RH0 K s σ T)[4]? = some (K.rbb, row 4 (s.l2.map Value.bool)) := rfl
theorem RH0_5 {K : WK} {s : WS} {σ : Sl} {T : Hp} : (RH0 K s σ T)[5]? = some (K.rl, row 106 (K.rps ++ K.rspl)) := rfl
theorem ptr_at {ss : List Sr} {k : Nat} {r : Sr} (h : ss[k]? = some r) : (ss.map Sr.ptr)[k]? = some (.pointer (some ⟨r.b, 0, none⟩)) := by rw [List.getElem?_map, h]; rfl
theorem ptr_st {ss : List Sr} {k : Nat} {r q : Sr} (h : ss[k]? = some r) (hb : q.b = r.b) : (ss.set k q).map Sr.ptr = ss.map Sr.ptr := by
  rw [List.map_set]
  obtain ⟨hk, hv⟩ := List.getElem?_eq_some_iff.1 (ptr_at h)
  show (ss.map Sr.ptr).set k (.pointer (some ⟨q.b, 0, none⟩)) = _
  rw [hb, ← hv]
  exact List.set_getElem_self hk
/-- a collector's generation and number go on, on both sides -/
theorem Inv.upd {K : WK} {i : Nat} {s : WS} (h : Inv K i s) {k : Nat} {r : Sr} {rb : Nat} (hr : s.ss[k]? = some r) (hrr : s.rs[k]? = some ⟨rb, r.w, r.g, r.q⟩) (g q n : Int) (hg : 0 ≤ g ∧ g ≤ i + 1) (hq : 0 ≤ q ∧ q ≤ i + 1) (hn : 0 ≤ n ∧ n ≤ i + 1) (kept : List Smp) (hk : kept.length ≤ i + 1) :
    Inv K (i + 1) ⟨n, s.ss.set k ⟨r.b, r.w, g, q⟩, s.rs.set k ⟨rb, r.w, g, q⟩, s.l, s.l2, kept, kept⟩ := by
  have hkl := (List.getElem?_eq_some_iff.1 hr).1
  have hkl2 := (List.getElem?_eq_some_iff.1 hrr).1
  refine ⟨by simpa using h.sl, by simpa using h.rl, fun j x hx => ?_, ?_, ?_, h.ll, h.l2, h.lb, rfl, hk, by push_cast; exact hn⟩
  · by_cases e : k = j
    · subst e
      rw [List.getElem?_set_self hkl] at hx
      cases hx
      obtain ⟨_, hw, _⟩ := h.sw k r hr
      exact ⟨⟨rb, List.getElem?_set_self hkl2⟩, hw, hg.1, by push_cast; exact hg.2, hq.1, by push_cast; exact hq.2⟩
    · rw [List.getElem?_set_ne e] at hx
      obtain ⟨⟨b, hb⟩, h1, h2, h3, h4, h5⟩ := h.sw j x hx
      exact ⟨⟨b, by rw [List.getElem?_set_ne e]; exact hb⟩, h1, h2, by push_cast; omega, h4, by push_cast; omega⟩
  · show (s.ss.set k _).map Sr.ptr = K.ps
    rw [ptr_st (q := ⟨r.b, r.w, g, q⟩) hr rfl]; exact h.sp
  · show (s.rs.set k _).map Sr.ptr = K.rps
    rw [ptr_st (q := ⟨rb, r.w, g, q⟩) hrr rfl]; exact h.rp
theorem Inv.mono {K : WK} {i : Nat} {s : WS} (h : Inv K i s) (n : Int) (hn : 0 ≤ n ∧ n ≤ i + 1) (l : List Bool) (hl : l.length = K.N) (hb : ((bads l).length : Int) ≤ K.c.f) : Inv K (i + 1) ⟨n, s.ss, s.rs, l, l, s.kept, s.kept⟩ := by
  refine ⟨h.sl, h.rl, fun j x hx => ?_, h.sp, h.rp, hl, rfl, hb, rfl, by have := h.kl; show s.kept.length ≤ i + 1; omega, by push_cast; exact hn⟩
  obtain ⟨h0, h1, h2, h3, h4, h5⟩ := h.sw j x hx
  exact ⟨h0, h1, h2, by push_cast; omega, h4, by push_cast; omega⟩
/-- what a pair of calls, the program's and the document's, must show -/
def Pair (K : WK) (i : Nat) (s : WS) (f g : Nat) (ua ub : Value → Array Value) : Prop :=
  ∃ (cd : Int) (ot : List UInt8) (s1 s2 : WS), Inv K (i + 1) s2 ∧ s1.kept2 = s.kept ∧ s1.kept = s2.kept ∧ ot.length ≤ 100 ∧
    (∀ σ τ T, slOk σ 4 s.kept.length (kc s.kept) → FnC Try.prog f (ua (.pointer (some ⟨K.b, 0, none⟩))) (WH K s σ τ T) (fun u M' => ∃ env A cap σ', u = .tuple #[.slice A ot.length cap, .int .i64 cd] ∧ slOk σ' 4 s2.kept.length (kc s2.kept) ∧ RdS env A (bv ot) ∧ M' = env ++ WH K s1 σ' τ T)) ∧
    (∀ env σ τ T, slOk τ 4 s.kept.length (kc s.kept) → FnC Try.prog g (ub (.pointer (some ⟨K.rb, 0, none⟩))) (env ++ WH K s1 σ τ T) (fun u M' => ∃ τ', u = .tuple #[.string (ofL ot), .int .i64 cd] ∧ slOk τ' 4 s2.kept.length (kc s2.kept) ∧ M' = env ++ WH K s2 σ τ' T))
theorem nat_in {k : Int} {N : Nat} (h : ¬ (k < 0 ∨ (N : Int) ≤ k)) : ∃ j : Nat, k = j ∧ j < N := ⟨k.toNat, by omega, by omega⟩
theorem Inv.same {K : WK} {i : Nat} {s : WS} (h : Inv K i s) : s = ⟨s.n, s.ss, s.rs, s.l, s.l, s.kept, s.kept⟩ := by
  have h1 := h.l2
  have h2 := h.k2
  cases s
  simp_all
theorem Inv.same1 {K : WK} {i : Nat} {s : WS} (hI : Inv K i s) : Inv K (i + 1) s := by
  have h := hI.mono s.n ⟨hI.n.1, by have := hI.n.2; omega⟩ s.l hI.ll hI.lb
  rw [hI.same]; exact h
section
variable {K : WK} {i : Nat} {s : WS} (hK : OKK K) (hI : Inv K i s) (hi : i ≤ 60)
include hK hI hi
theorem pairS (k me e v : Int) : Pair K i s 16 19 (fun p => #[p, .int .i64 k, .int .i64 me, .int .i64 e, .int .i64 v]) (fun p => #[p, .int .i64 k, .int .i64 me, .int .i64 e, .int .i64 v]) := by
  have hn := hI.n
  have hkl := hI.kl
  by_cases hk : k < 0 ∨ (K.N : Int) ≤ k
  · refine ⟨3, [], s, s, hI.same1, hI.k2, rfl, by simp, fun σ τ T hσ => ?_, fun env σ τ T hτ => ?_⟩
    · refine (wSample_no K.b 0 K.c _ K.N K.cl K.bb K.N σ s.kept.length s.n (WH K s σ τ T) rfl k me e v hk).mono fun u M' ⟨h1, h2⟩ => ⟨[], none, 0, σ, h1, hσ, .nil _ _, h2.symm⟩
    · refine ((rSample_out K.rb 0 K.c _ K.N K.rcl K.rbb τ s.kept2.length K.N (RH K s σ τ (env ++ T)) rfl hK.n k hk me e v).pre fun z w h => own_wr w h).post fun u M' ⟨h1, h2⟩ => ⟨_, ⟨τ, h1, hτ, rfl⟩, fun z w h => own_rw (K := K) (s := s) (σ := σ) (τ := τ) (env := env) (T := T) w (by subst h2; exact h)⟩
  · obtain ⟨j, rfl, hj⟩ := nat_in hk
    obtain ⟨r, hr⟩ : ∃ r, s.ss[j]? = some r := ⟨_, List.getElem?_eq_getElem (by rw [hI.sl]; exact hj)⟩
    obtain ⟨⟨rb, hrr⟩, hw, hg0, hg1, hq0, hq1⟩ := hI.sw j r hr
    obtain ⟨b0, w0, g0, q0⟩ := r
    simp only at hw hg0 hg1 hq0 hq1 hrr
    subst hw
    have hp := hI.sp ▸ ptr_at hr
    have hp2 := hI.rp ▸ ptr_at hrr
    have hl2 := hI.l2
    have hk2 := hI.k2
    have hpl : K.ps.length = s.l.length := by rw [hK.ps, hI.ll]
    have hpl2 : K.rps.length = s.l2.length := by rw [hK.rps, hl2, hI.ll]
    have hcn : K.c.n = (s.l2.length : Nat) := by rw [hK.n, hl2, hI.ll]
    obtain ⟨y, hy⟩ : ∃ y, s.l[j]? = some y := ⟨_, List.getElem?_eq_getElem (by rw [hI.ll]; exact hj)⟩
    have hy2 : s.l2[j]? = some y := by rw [hl2]; exact hy
    cases hm : mayM ⟨1, (j : Nat), g0, q0 + 1, e, v, me⟩ with
    | false =>
      refine ⟨1, [], s, s, hI.same1, hI.k2, rfl, by simp, fun σ τ T hσ => ?_, fun env σ τ T hτ => ?_⟩
      · have h := wSample_arg K.b K.bl K.cl K.bb K.c σ s.kept s.n s.l K.ps K.spl 2 3 (j + 6) (WH0 K s τ T) WH0_2 WH0_3 hpl b0 j K.c.seed g0 q0 hp (WH0_at hr) hσ (by omega) ⟨by omega, by omega⟩ me e v hm ⟨by omega, by omega⟩
        rw [hK.ps, hI.ll] at h
        exact h.mono fun u M' ⟨h1, h2⟩ => ⟨[], none, 0, σ, h1, hσ, .nil _ _, h2.symm⟩
      · have h := rSample_arg K.rb K.rl K.rcl K.rbb K.c τ s.kept2 s.l2 K.rps K.rspl 4 5 (j + 6) (RH0 K s σ (env ++ T)) hcn RH0_4 RH0_5 hpl2 rb j K.c.seed g0 q0 hp2 (RH0_at (s := s) hrr) ⟨by omega, by omega⟩ (by rw [hk2]; exact hτ) (by rw [hk2]; omega) me e v hm
        rw [hK.rps, ← hpl2, hK.rps] at h
        exact (h.pre fun z w h => own_wr (K := K) (s := s) (σ := σ) (τ := τ) (env := env) (T := T) w h).post fun u M' ⟨h1, h2⟩ => ⟨_, ⟨τ, h1, hτ, rfl⟩, fun z w h => own_rw (K := K) (s := s) (σ := σ) (τ := τ) (env := env) (T := T) w (by subst h2; exact h)⟩
    | true =>
      cases y with
      | true =>
        refine ⟨0, sealB (macKey K.c.seed ((j : Nat) : Int) g0) ⟨1, (j : Nat), g0, q0 + 1, e, v, me⟩, ⟨s.n + 1, s.ss.set j ⟨b0, (j : Nat), g0, q0 + 1⟩, s.rs, s.l, s.l2, s.kept, s.kept2⟩, _, hI.upd hr hrr g0 (q0 + 1) (s.n + 1) ⟨by omega, by omega⟩ ⟨by omega, by omega⟩ ⟨by omega, by omega⟩ s.kept (by omega), hk2, rfl, by simp, fun σ τ T hσ => ?_, fun env σ τ T hτ => ?_⟩
        · have h := wSample_bad K.b K.bl K.cl K.bb K.c σ s.kept s.n s.l K.ps K.spl 2 3 (j + 6) (WH0 K s τ T) WH0_2 WH0_3 hpl b0 j K.c.seed g0 q0 hp (WH0_at hr) hσ (by omega) ⟨by omega, by omega⟩ me e v hm hy
          rw [hK.ps, hI.ll] at h
          refine h.mono fun u M' ⟨bE, c', sp, h1, h2⟩ => ⟨[(bE, row 5 (bv (sealB (macKey K.c.seed ((j : Nat) : Int) g0) ⟨1, (j : Nat), g0, q0 + 1, e, v, me⟩) ++ sp))], some ⟨bE, 0, none⟩, c', σ, by rw [h1, sealB_len], hσ, rd_all (i := 0) rfl, ?_⟩
          rw [h2, WH0_set hr]
          rfl
        · have h := rSample_bad K.rb K.rl K.rcl K.rbb K.c τ s.kept2 s.l2 K.rps K.rspl 4 5 (j + 6) (RH0 K ⟨s.n + 1, s.ss.set j ⟨b0, (j : Nat), g0, q0 + 1⟩, s.rs, s.l, s.l2, s.kept, s.kept2⟩ σ (env ++ T)) hcn RH0_4 RH0_5 hpl2 rb j K.c.seed g0 q0 hp2 (RH0_at (s := ⟨s.n + 1, s.ss.set j ⟨b0, (j : Nat), g0, q0 + 1⟩, s.rs, s.l, s.l2, s.kept, s.kept2⟩) hrr) ⟨by omega, by omega⟩ (by rw [hk2]; exact hτ) (by rw [hk2]; omega) me e v hm hy2
          rw [hK.rps, ← hpl2, hK.rps] at h
          refine (h.pre fun z w h => own_wr (K := K) (s := ⟨s.n + 1, s.ss.set j ⟨b0, (j : Nat), g0, q0 + 1⟩, s.rs, s.l, s.l2, s.kept, s.kept2⟩) (σ := σ) (τ := τ) (env := env) (T := T) w h).post fun u M' ⟨h1, h2⟩ => ⟨_, ⟨τ, h1, hτ, rfl⟩, fun z w h => own_rw (K := K) (σ := σ) (τ := τ) (env := env) (T := T) w ?_⟩
          rw [h2, RH0_set (s := ⟨s.n + 1, s.ss.set j ⟨b0, (j : Nat), g0, q0 + 1⟩, s.rs, s.l, s.l2, s.kept, s.kept2⟩) hrr, hk2] at h
          exact h
      | false =>
        cases hno : s.kept.any (fun x => sameS x ((j : Nat) : Int) me e) with
        | true =>
          refine ⟨8, [], s, s, hI.same1, hI.k2, rfl, by simp, fun σ τ T hσ => ?_, fun env σ τ T hτ => ?_⟩
          · have h := wSample_twice K.b K.bl K.cl K.bb K.c σ s.kept s.n s.l K.ps K.spl 2 3 (j + 6) (WH0 K s τ T) WH0_2 WH0_3 hpl b0 j K.c.seed g0 q0 hp (WH0_at hr) hσ (by omega) ⟨by omega, by omega⟩ me e v hm hy hno
            rw [hK.ps, hI.ll] at h
            exact h.mono fun u M' ⟨h1, h2⟩ => ⟨[], none, 0, σ, h1, hσ, .nil _ _, h2.symm⟩
          · have h := rSample_twice K.rb K.rl K.rcl K.rbb K.c τ s.kept2 s.l2 K.rps K.rspl 4 5 (j + 6) (RH0 K s σ (env ++ T)) hcn RH0_4 RH0_5 hpl2 rb j K.c.seed g0 q0 hp2 (RH0_at (s := s) hrr) ⟨by omega, by omega⟩ (by rw [hk2]; exact hτ) (by rw [hk2]; omega) me e v hm hy2 (by rw [hk2]; exact hno)
            rw [hK.rps, ← hpl2, hK.rps] at h
            exact (h.pre fun z w h => own_wr (K := K) (s := s) (σ := σ) (τ := τ) (env := env) (T := T) w h).post fun u M' ⟨h1, h2⟩ => ⟨_, ⟨τ, h1, hτ, rfl⟩, fun z w h => own_rw (K := K) (s := s) (σ := σ) (τ := τ) (env := env) (T := T) w (by subst h2; exact h)⟩
        | false =>
          obtain ⟨kp, hkp⟩ : ∃ kp : List Smp, kp = s.kept ++ [⟨(j : Nat), me, e, v⟩] := ⟨_, rfl⟩
          have hkc : kc s.kept ++ Smp.cs ⟨(j : Nat), me, e, v⟩ = kc kp := by rw [hkp]; simp [kc]
          have hkn : s.kept.length + 1 = kp.length := by rw [hkp]; simp
          refine ⟨0, sealB (macKey K.c.seed ((j : Nat) : Int) g0) ⟨1, (j : Nat), g0, q0 + 1, e, v, me⟩, ⟨s.n + 1, s.ss.set j ⟨b0, (j : Nat), g0, q0 + 1⟩, s.rs, s.l, s.l2, kp, s.kept2⟩, _, hI.upd hr hrr g0 (q0 + 1) (s.n + 1) ⟨by omega, by omega⟩ ⟨by omega, by omega⟩ ⟨by omega, by omega⟩ kp (by omega), hk2, rfl, by simp, fun σ τ T hσ => ?_, fun env σ τ T hτ => ?_⟩
          · have h := wSample_ok K.b K.bl K.cl K.bb K.c σ s.kept s.n s.l K.ps K.spl 2 3 (j + 6) (WH0 K s τ T) WH0_2 WH0_3 hpl b0 j K.c.seed g0 q0 hp (WH0_at hr) hσ (by omega) ⟨by omega, by omega⟩ me e v hm hy hno
            rw [hK.ps, hI.ll] at h
            refine h.mono fun u M' ⟨bE, c', sp, σ', h1, h3, h2⟩ => ⟨[(bE, row 5 (bv (sealB (macKey K.c.seed ((j : Nat) : Int) g0) ⟨1, (j : Nat), g0, q0 + 1, e, v, me⟩) ++ sp))], some ⟨bE, 0, none⟩, c', σ', by rw [h1, sealB_len], ?_, rd_all (i := 0) rfl, ?_⟩
            · rw [hkc, hkn] at h3; exact h3
            · rw [h2, WH0_set hr, hkc, hkn]
              rfl
          · have h := rSample_ok K.rb K.rl K.rcl K.rbb K.c τ s.kept2 s.l2 K.rps K.rspl 4 5 (j + 6) (RH0 K ⟨s.n + 1, s.ss.set j ⟨b0, (j : Nat), g0, q0 + 1⟩, s.rs, s.l, s.l2, kp, s.kept2⟩ σ (env ++ T)) hcn RH0_4 RH0_5 hpl2 rb j K.c.seed g0 q0 hp2 (RH0_at (s := ⟨s.n + 1, s.ss.set j ⟨b0, (j : Nat), g0, q0 + 1⟩, s.rs, s.l, s.l2, kp, s.kept2⟩) hrr) ⟨by omega, by omega⟩ (by rw [hk2]; exact hτ) (by rw [hk2]; omega) me e v hm hy2 (by rw [hk2]; exact hno)
            rw [hK.rps, ← hpl2, hK.rps] at h
            refine (h.pre fun z w h => own_wr (K := K) (s := ⟨s.n + 1, s.ss.set j ⟨b0, (j : Nat), g0, q0 + 1⟩, s.rs, s.l, s.l2, kp, s.kept2⟩) (σ := σ) (τ := τ) (env := env) (T := T) w h).post fun u M' ⟨τ', h1, h3, h2⟩ => ⟨_, ⟨τ', h1, ?_, rfl⟩, fun z w h => own_rw (K := K) (σ := σ) (τ := τ') (env := env) (T := T) w ?_⟩
            · rw [hk2, hkc, hkn] at h3; exact h3
            · rw [h2, RH0_set (s := ⟨s.n + 1, s.ss.set j ⟨b0, (j : Nat), g0, q0 + 1⟩, s.rs, s.l, s.l2, kp, s.kept2⟩) hrr, hk2, hkc, hkn] at h
              exact h
end

end Go.Proofs.Ytphoapajlcaoeaa
/- walks -/
set_option linter.unusedVariables false
set_option linter.unusedSimpArgs false
set_option maxRecDepth 100000
set_option maxHeartbeats 4000000
namespace Go.Proofs.Ytphoapajlcaoeaa
open Go Go.X
theorem set_app1 {L H : Hp} {j : Nat} {y a : Nat × Obj} : (a :: (L ++ H)).set (L.length + j + 1) y = a :: (L ++ H.set j y) := by
  show a :: ((L ++ H).set (L.length + j) y) = _
  rw [set_app]
theorem WH_n {K : WK} {s : WS} {σ τ : Sl} {T : Hp} {n : Int} : (WH K s σ τ T).set 0 (wob K.b K.c (some ⟨K.bl, 0, none⟩) K.N K.cl K.bb K.N σ s.kept.length n) = WH K ⟨n, s.ss, s.rs, s.l, s.l2, s.kept, s.kept2⟩ σ τ T := rfl
theorem WH_at {K : WK} {s : WS} {σ τ : Sl} {T : Hp} {j : Nat} {x : Nat × Obj} (h : (WH0 K s τ T)[j]? = some x) : (WH K s σ τ T)[(slH σ 100 (kc s.kept)).length + j + 1]? = some x := get_app1 h
theorem RH_at {K : WK} {s : WS} {σ τ : Sl} {T : Hp} {j : Nat} {x : Nat × Obj} (h : (RH0 K s σ T)[j]? = some x) : (RH K s σ τ T)[(slH τ 100 (kc s.kept2)).length + j + 1]? = some x := get_app1 h
theorem WH_ss {K : WK} {s : WS} {σ τ : Sl} {T : Hp} {j b b0 : Nat} {w g q w0 g0 q0 n : Int} (h : s.ss[j]? = some ⟨b0, w0, g0, q0⟩) : ((WH K s σ τ T).set 0 (wob K.b K.c (some ⟨K.bl, 0, none⟩) K.N K.cl K.bb K.N σ s.kept.length n)).set ((slH σ 100 (kc s.kept)).length + (j + 6) + 1) (sobj b K.c.seed w g q) = WH K ⟨n, s.ss.set j ⟨b, w, g, q⟩, s.rs, s.l, s.l2, s.kept, s.kept2⟩ σ τ T := by
  show (wob K.b K.c (some ⟨K.bl, 0, none⟩) K.N K.cl K.bb K.N σ s.kept.length n :: (slH σ 100 (kc s.kept) ++ WH0 K s τ T)).set _ _ = _
  rw [set_app1, WH0_set h]
  rfl
theorem RH_rs {K : WK} {s : WS} {σ τ : Sl} {T : Hp} {j b b0 : Nat} {w g q w0 g0 q0 : Int} (h : s.rs[j]? = some ⟨b0, w0, g0, q0⟩) : (RH K s σ τ T).set ((slH τ 100 (kc s.kept2)).length + (j + 6) + 1) (rsO b K.c.seed w g q) = RH K ⟨s.n, s.ss, s.rs.set j ⟨b, w, g, q⟩, s.l, s.l2, s.kept, s.kept2⟩ σ τ T := by
  show (rwo K.rb K.c (some ⟨K.rl, 0, none⟩) K.N K.rcl K.rbb K.N τ s.kept2.length :: (slH τ 100 (kc s.kept2) ++ RH0 K s σ T)).set _ _ = _
  rw [set_app1, RH0_set h]
  rfl
theorem WH_l {K : WK} {s : WS} {σ τ : Sl} {T : Hp} {l : List Bool} : (WH K s σ τ T).set ((slH σ 100 (kc s.kept)).length + 2 + 1) (K.bb, row 4 (l.map Value.bool)) = WH K ⟨s.n, s.ss, s.rs, l, s.l2, s.kept, s.kept2⟩ σ τ T := by
  show (wob K.b K.c (some ⟨K.bl, 0, none⟩) K.N K.cl K.bb K.N σ s.kept.length s.n :: (slH σ 100 (kc s.kept) ++ WH0 K s τ T)).set _ _ = _
  rw [set_app1]
  rfl
theorem RH_l {K : WK} {s : WS} {σ τ : Sl} {T : Hp} {l : List Bool} : (RH K s σ τ T).set ((slH τ 100 (kc s.kept2)).length + 4 + 1) (K.rbb, row 4 (l.map Value.bool)) = RH K ⟨s.n, s.ss, s.rs, s.l, l, s.kept, s.kept2⟩ σ τ T := by
  show (rwo K.rb K.c (some ⟨K.rl, 0, none⟩) K.N K.rcl K.rbb K.N τ s.kept2.length :: (slH τ 100 (kc s.kept2) ++ RH0 K s σ T)).set _ _ = _
  rw [set_app1]
  rfl
theorem cnt_eq (l : List Bool) (k : Nat) : ∀ i, i ≤ l.length → cntTo l k i + (if k < i ∧ l.getD k false = true then 1 else 0) = (l.take i).count true
  | 0, _ => by simp [cntTo]
  | i + 1, h => by
    have ih := cnt_eq l k i (by omega)
    have e : l[i]? = some l[i] := List.getElem?_eq_getElem (by omega)
    rw [cntTo, List.take_add_one, List.count_append, ← ih, List.getD_eq_getElem?_getD, e]
    cases hx : l[i] with
    | true =>
      by_cases hki : k = i
      · subst hki
        simp [List.getD_eq_getElem?_getD, e, hx]
      · have : (k < i + 1) ↔ (k < i) := by omega
        have hn : i ≠ k := fun h => hki h.symm
        simp [this, hn]
        omega
    | false =>
      by_cases hki : k = i
      · subst hki
        simp [List.getD_eq_getElem?_getD, e, hx]
      · have : (k < i + 1) ↔ (k < i) := by omega
        simp [this]
theorem cnt_all {l : List Bool} {k : Nat} {x : Bool} (h : l[k]? = some x) : cntTo l k l.length + (if x = true then 1 else 0) = (bads l).length := by
  have h1 := cnt_eq l k l.length (Nat.le_refl _)
  have hk := (List.getElem?_eq_some_iff.1 h).1
  rw [List.take_length, List.getD_eq_getElem?_getD, h] at h1
  rw [bads_count, ← h1]
  simp [hk]
set_option linter.unusedSectionVars false
section
variable {K : WK} {i : Nat} {s : WS} (hK : OKK K) (hI : Inv K i s) (hi : i ≤ 60)
include hK hI hi
theorem pairR (k e : Int) : Pair K i s 20 21 (fun p => #[p, .int .i64 k, .int .i64 e]) (fun p => #[p, .int .i64 k, .int .i64 e]) := by
  have hn := hI.n
  by_cases hk : k < 0 ∨ (K.N : Int) ≤ k
  · refine ⟨3, [], s, s, hI.same1, hI.k2, rfl, by simp, fun σ τ T hσ => ?_, fun env σ τ T hτ => ?_⟩
    · refine (Rotate_out K.b 0 K.c _ K.N K.cl K.bb K.N σ s.kept.length s.n (WH K s σ τ T) rfl k hk e).mono fun u M' ⟨h1, h2⟩ => ⟨[], none, 0, σ, h1, hσ, .nil _ _, h2.symm⟩
    · refine ((rRotate_out K.rb 0 K.c _ K.N K.rcl K.rbb τ s.kept2.length K.N (RH K s σ τ (env ++ T)) rfl hK.n k hk e).pre fun z w h => own_wr w h).post fun u M' ⟨h1, h2⟩ => ⟨_, ⟨τ, h1, hτ, rfl⟩, fun z w h => own_rw (K := K) (s := s) (σ := σ) (τ := τ) (env := env) (T := T) w (by subst h2; exact h)⟩
  · obtain ⟨j, rfl, hj⟩ := nat_in hk
    obtain ⟨r, hr⟩ : ∃ r, s.ss[j]? = some r := ⟨_, List.getElem?_eq_getElem (by rw [hI.sl]; exact hj)⟩
    obtain ⟨⟨rb, hrr⟩, hw, hg0, hg1, hq0, hq1⟩ := hI.sw j r hr
    obtain ⟨b0, w0, g0, q0⟩ := r
    simp only at hw hg0 hg1 hq0 hq1 hrr
    subst hw
    have hp := hI.sp ▸ ptr_at hr
    have hp2 := hI.rp ▸ ptr_at hrr
    have hk2 := hI.k2
    cases hm : mayM ⟨2, (j : Nat), g0 + 1, q0 + 1, e, 0, 0⟩ with
    | false =>
      refine ⟨1, [], ⟨s.n + 1, s.ss, s.rs, s.l, s.l2, s.kept, s.kept2⟩, _, hI.mono (s.n + 1) ⟨by omega, by omega⟩ s.l hI.ll hI.lb, hk2, rfl, by simp, fun σ τ T hσ => ?_, fun env σ τ T hτ => ?_⟩
      · have h := Rotate_no K.b 0 K.c (some ⟨K.bl, 0, none⟩) K.N K.cl K.bb K.N σ s.kept.length s.n (WH K s σ τ T) rfl ((slH σ 100 (kc s.kept)).length + 3 + 1) ((slH σ 100 (kc s.kept)).length + (j + 6) + 1) K.bl b0 K.ps K.spl hK.ps rfl (WH_at WH0_3) (by omega) j hp K.c.seed g0 q0 (WH_at (WH0_at hr)) (by omega) ⟨by omega, by omega⟩ ⟨by omega, by omega⟩ ⟨by omega, by omega⟩ e hm
        exact h.mono fun u M' ⟨h1, h2⟩ => ⟨[], none, 0, σ, h1, hσ, .nil _ _, by rw [h2, WH_n]; rfl⟩
      · have h := rRotate_no K.rb 0 K.c (some ⟨K.rl, 0, none⟩) K.N K.rcl K.rbb τ s.kept2.length K.N (RH K ⟨s.n + 1, s.ss, s.rs, s.l, s.l2, s.kept, s.kept2⟩ σ τ (env ++ T)) rfl hK.n ((slH τ 100 (kc s.kept2)).length + 5 + 1) ((slH τ 100 (kc s.kept2)).length + (j + 6) + 1) K.rl rb K.rps K.rspl hK.rps rfl rfl (RH_at RH0_5) j hp2 K.c.seed g0 q0 (RH_at (RH0_at hrr)) ⟨by omega, by omega⟩ ⟨by omega, by omega⟩ e hm
        refine (h.pre fun z w h => own_wr (K := K) (s := ⟨s.n + 1, s.ss, s.rs, s.l, s.l2, s.kept, s.kept2⟩) (σ := σ) (τ := τ) (env := env) (T := T) w h).post fun u M' ⟨h1, h2⟩ => ⟨_, ⟨τ, h1, hτ, rfl⟩, fun z w h => own_rw (K := K) (σ := σ) (τ := τ) (env := env) (T := T) w ?_⟩
        subst h2
        rw [hk2, hI.l2] at h
        exact h
    | true =>
      refine ⟨0, sealB (macKey K.c.seed ((j : Nat) : Int) g0) ⟨2, (j : Nat), g0 + 1, q0 + 1, e, 0, 0⟩, ⟨s.n + 1, s.ss.set j ⟨b0, (j : Nat), g0 + 1, 0⟩, s.rs, s.l, s.l2, s.kept, s.kept2⟩, _, hI.upd hr hrr (g0 + 1) 0 (s.n + 1) ⟨by omega, by omega⟩ ⟨by omega, by omega⟩ ⟨by omega, by omega⟩ s.kept (by have := hI.kl; omega), hk2, rfl, by simp, fun σ τ T hσ => ?_, fun env σ τ T hτ => ?_⟩
      · have h := Rotate_yes K.b 0 K.c (some ⟨K.bl, 0, none⟩) K.N K.cl K.bb K.N σ s.kept.length s.n (WH K s σ τ T) rfl ((slH σ 100 (kc s.kept)).length + 3 + 1) ((slH σ 100 (kc s.kept)).length + (j + 6) + 1) K.bl b0 K.ps K.spl hK.ps rfl (WH_at WH0_3) (by omega) j hp K.c.seed g0 q0 (WH_at (WH0_at hr)) (by omega) ⟨by omega, by omega⟩ e hm
        refine h.mono fun u M' ⟨bE, c', sp, h1, h2⟩ => ⟨[(bE, row 5 (bv (sealB (macKey K.c.seed ((j : Nat) : Int) g0) ⟨2, (j : Nat), g0 + 1, q0 + 1, e, 0, 0⟩) ++ sp))], some ⟨bE, 0, none⟩, c', σ, by rw [h1, sealB_len], hσ, rd_all (i := 0) rfl, ?_⟩
        rw [h2, WH_ss hr]
        rfl
      · have h := rRotate_yes K.rb 0 K.c (some ⟨K.rl, 0, none⟩) K.N K.rcl K.rbb τ s.kept2.length K.N (RH K ⟨s.n + 1, s.ss.set j ⟨b0, (j : Nat), g0 + 1, 0⟩, s.rs, s.l, s.l2, s.kept, s.kept2⟩ σ τ (env ++ T)) rfl hK.n ((slH τ 100 (kc s.kept2)).length + 5 + 1) ((slH τ 100 (kc s.kept2)).length + (j + 6) + 1) K.rl rb K.rps K.rspl hK.rps rfl rfl (RH_at RH0_5) j hp2 K.c.seed g0 q0 (RH_at (RH0_at hrr)) ⟨by omega, by omega⟩ ⟨by omega, by omega⟩ e hm
        refine (h.pre fun z w h => own_wr (K := K) (s := ⟨s.n + 1, s.ss.set j ⟨b0, (j : Nat), g0 + 1, 0⟩, s.rs, s.l, s.l2, s.kept, s.kept2⟩) (σ := σ) (τ := τ) (env := env) (T := T) w h).post fun u M' ⟨h1, h2⟩ => ⟨_, ⟨τ, h1, hτ, rfl⟩, fun z w h => own_rw (K := K) (σ := σ) (τ := τ) (env := env) (T := T) w ?_⟩
        have e := RH_rs (K := K) (s := ⟨s.n + 1, s.ss.set j ⟨b0, (j : Nat), g0 + 1, 0⟩, s.rs, s.l, s.l2, s.kept, s.kept2⟩) (σ := σ) (τ := τ) (T := env ++ T) (b := rb) (w := ((j : Nat) : Int)) (g := g0 + 1) (q := 0) hrr
        rw [h2, e, hk2] at h
        exact h
theorem pairF (k me e v sq gn : Int) : Pair K i s 23 24 (fun p => #[p, .int .i64 k, .int .i64 me, .int .i64 e, .int .i64 v, .int .i64 sq, .int .i64 gn]) (fun p => #[p, .int .i64 k, .int .i64 me, .int .i64 e, .int .i64 v, .int .i64 sq, .int .i64 gn]) := by
  have hn := hI.n
  have hk2 := hI.k2
  by_cases hk : k < 0 ∨ (K.N : Int) ≤ k
  · refine ⟨3, [], s, s, hI.same1, hI.k2, rfl, by simp, fun σ τ T hσ => ?_, fun env σ τ T hτ => ?_⟩
    · refine (Forge_out K.b 0 K.c _ K.N K.cl K.bb K.N σ s.kept.length s.n (WH K s σ τ T) rfl k hk me e v sq gn).mono fun u M' ⟨h1, h2⟩ => ⟨[], none, 0, σ, h1, hσ, .nil _ _, h2.symm⟩
    · refine ((rForge_out K.rb 0 K.c _ K.N K.rcl K.rbb τ s.kept2.length K.N (RH K s σ τ (env ++ T)) rfl hK.n k hk me e v sq gn).pre fun z w h => own_wr w h).post fun u M' ⟨h1, h2⟩ => ⟨_, ⟨τ, h1, hτ, rfl⟩, fun z w h => own_rw (K := K) (s := s) (σ := σ) (τ := τ) (env := env) (T := T) w (by subst h2; exact h)⟩
  · obtain ⟨j, rfl, hj⟩ := nat_in hk
    have hl2 := hI.l2
    have hnl : K.N = s.l.length := hI.ll.symm
    have hcn : K.c.n = (s.l2.length : Nat) := by rw [hK.n, hl2, hI.ll]
    have hl16 : s.l.length ≤ 100 := by have := hK.c.n; have := hK.n; rw [hI.ll]; omega
    obtain ⟨y, hy⟩ : ∃ y, s.l[j]? = some y := ⟨_, List.getElem?_eq_getElem (by rw [hI.ll]; exact hj)⟩
    have hy2 : s.l2[j]? = some y := by rw [hl2]; exact hy
    cases y with
    | false =>
      refine ⟨3, [], s, s, hI.same1, hI.k2, rfl, by simp, fun σ τ T hσ => ?_, fun env σ τ T hτ => ?_⟩
      · exact (Forge_no K.b 0 ((slH σ 100 (kc s.kept)).length + 2 + 1) K.c (some ⟨K.bl, 0, none⟩) K.N K.cl K.bb σ s.kept.length s.n s.l (WH K s σ τ T) (by rw [← hnl]; rfl) (WH_at WH0_2) hnl j hj hy me e v sq gn).mono fun u M' ⟨h1, h2⟩ => ⟨[], none, 0, σ, h1, hσ, .nil _ _, h2.symm⟩
      · exact ((rForge_nb K.rb 0 ((slH τ 100 (kc s.kept2)).length + 4 + 1) K.c (some ⟨K.rl, 0, none⟩) K.N K.rcl K.rbb τ s.kept2.length s.l2 (RH K s σ τ (env ++ T)) (by rw [hl2, ← hnl]; rfl) (RH_at RH0_4) hcn (by rw [hl2]; exact hl16) j (by rw [hl2, ← hnl]; exact hj) hy2 me e v sq gn).pre fun z w h => own_wr w h).post fun u M' ⟨h1, h2⟩ => ⟨_, ⟨τ, h1, hτ, rfl⟩, fun z w h => own_rw (K := K) (s := s) (σ := σ) (τ := τ) (env := env) (T := T) w (by subst h2; exact h)⟩
    | true =>
      cases hm : mayM ⟨1, (j : Nat), gn, sq, e, v, me⟩ with
      | false =>
        refine ⟨1, [], ⟨s.n + 1, s.ss, s.rs, s.l, s.l2, s.kept, s.kept2⟩, _, hI.mono (s.n + 1) ⟨by omega, by omega⟩ s.l hI.ll hI.lb, hk2, rfl, by simp, fun σ τ T hσ => ?_, fun env σ τ T hτ => ?_⟩
        · refine (Forge_bad K.b 0 ((slH σ 100 (kc s.kept)).length + 2 + 1) K.c (some ⟨K.bl, 0, none⟩) K.N K.cl K.bb σ s.kept.length s.n s.l (WH K s σ τ T) (by rw [← hnl]; rfl) (WH_at WH0_2) hnl j hj hy ⟨by omega, by omega⟩ me e v sq gn hm).mono fun u M' ⟨h1, h2⟩ => ⟨[], none, 0, σ, h1, hσ, .nil _ _, ?_⟩
          rw [h2, ← hnl, WH_n]; rfl
        · refine ((rForge_no K.rb 0 ((slH τ 100 (kc s.kept2)).length + 4 + 1) K.c (some ⟨K.rl, 0, none⟩) K.N K.rcl K.rbb τ s.kept2.length s.l2 (RH K ⟨s.n + 1, s.ss, s.rs, s.l, s.l2, s.kept, s.kept2⟩ σ τ (env ++ T)) (by rw [hl2, ← hnl]; rfl) (RH_at RH0_4) hcn (by rw [hl2]; exact hl16) j (by rw [hl2, ← hnl]; exact hj) hy2 me e v sq gn hm).pre fun z w h => own_wr (K := K) (s := ⟨s.n + 1, s.ss, s.rs, s.l, s.l2, s.kept, s.kept2⟩) (σ := σ) (τ := τ) (env := env) (T := T) w h).post fun u M' ⟨h1, h2⟩ => ⟨_, ⟨τ, h1, hτ, rfl⟩, fun z w h => own_rw (K := K) (σ := σ) (τ := τ) (env := env) (T := T) w ?_⟩
          subst h2
          rw [hk2, hl2] at h
          exact h
      | true =>
        refine ⟨0, sealB (macKey K.c.seed ((j : Nat) : Int) gn) ⟨1, (j : Nat), gn, sq, e, v, me⟩, ⟨s.n + 1, s.ss, s.rs, s.l, s.l2, s.kept, s.kept2⟩, _, hI.mono (s.n + 1) ⟨by omega, by omega⟩ s.l hI.ll hI.lb, hk2, rfl, by simp, fun σ τ T hσ => ?_, fun env σ τ T hτ => ?_⟩
        · refine (Forge_ok K.b 0 ((slH σ 100 (kc s.kept)).length + 2 + 1) K.c (some ⟨K.bl, 0, none⟩) K.N K.cl K.bb σ s.kept.length s.n s.l (WH K s σ τ T) (by rw [← hnl]; rfl) (WH_at WH0_2) hnl j hj hy ⟨by omega, by omega⟩ me e v sq gn hm).mono fun u M' ⟨bE, c', sp, h1, _, h2⟩ => ⟨[(bE, row 5 (bv (sealB (macKey K.c.seed ((j : Nat) : Int) gn) ⟨1, (j : Nat), gn, sq, e, v, me⟩) ++ sp))], some ⟨bE, 0, none⟩, c', σ, by rw [h1, sealB_len], hσ, rd_all (i := 0) rfl, ?_⟩
          rw [h2, ← hnl, WH_n]; rfl
        · refine ((rForge_yes K.rb 0 ((slH τ 100 (kc s.kept2)).length + 4 + 1) K.c (some ⟨K.rl, 0, none⟩) K.N K.rcl K.rbb τ s.kept2.length s.l2 (RH K ⟨s.n + 1, s.ss, s.rs, s.l, s.l2, s.kept, s.kept2⟩ σ τ (env ++ T)) (by rw [hl2, ← hnl]; rfl) (RH_at RH0_4) hcn (by rw [hl2]; exact hl16) j (by rw [hl2, ← hnl]; exact hj) hy2 me e v sq gn hm).pre fun z w h => own_wr (K := K) (s := ⟨s.n + 1, s.ss, s.rs, s.l, s.l2, s.kept, s.kept2⟩) (σ := σ) (τ := τ) (env := env) (T := T) w h).post fun u M' ⟨h1, h2⟩ => ⟨_, ⟨τ, h1, hτ, rfl⟩, fun z w h => own_rw (K := K) (σ := σ) (τ := τ) (env := env) (T := T) w ?_⟩
          subst h2
          rw [hk2, hl2] at h
          exact h
theorem pairC (k : Int) : ∃ (cd : Int) (s1 s2 : WS), Inv K (i + 1) s2 ∧ s2.kept = s.kept ∧
    (∀ σ τ T, FnC Try.prog 14 #[.pointer (some ⟨K.b, 0, none⟩), .int .i64 k] (WH K s σ τ T) (fun u M' => u = .int .i64 cd ∧ M' = WH K s1 σ τ T)) ∧
    (∀ σ τ T, FnC Try.prog 22 #[.pointer (some ⟨K.rb, 0, none⟩), .int .i64 k] (WH K s1 σ τ T) (fun u M' => u = .int .i64 cd ∧ M' = WH K s2 σ τ T)) := by
  have hk2 := hI.k2
  by_cases hk : k < 0 ∨ (K.N : Int) ≤ k
  · refine ⟨3, s, s, hI.same1, rfl, fun σ τ T => ?_, fun σ τ T => ?_⟩
    · exact (Corrupt_out K.b 0 K.c _ K.N K.cl K.bb K.N σ s.kept.length s.n (WH K s σ τ T) rfl k hk).mono fun u M' ⟨h1, h2⟩ => ⟨h1, h2.symm⟩
    · exact ((rCorrupt_no K.rb 0 K.c _ K.N K.rcl K.rbb τ s.kept2.length K.N (RH K s σ τ ([] ++ T)) rfl hK.n k hk).pre fun z w h => own_wr (env := []) w h).post fun u M' ⟨h1, h2⟩ => ⟨_, ⟨h1, rfl⟩, fun z w h => own_rw (K := K) (s := s) (σ := σ) (τ := τ) (env := []) (T := T) w (by subst h2; exact h)⟩
  · obtain ⟨j, rfl, hj⟩ := nat_in hk
    have hl2 := hI.l2
    have hnl : K.N = s.l.length := hI.ll.symm
    have hcn : K.c.n = (s.l2.length : Nat) := by rw [hK.n, hl2, hI.ll]
    have hl16 : s.l.length ≤ 100 := by have := hK.c.n; have := hK.n; rw [hI.ll]; omega
    obtain ⟨y, hy⟩ : ∃ y, s.l[j]? = some y := ⟨_, List.getElem?_eq_getElem (by rw [hI.ll]; exact hj)⟩
    have hcnt := cnt_all hy
    have hlb := hI.lb
    by_cases hfull : y = false ∧ K.c.f ≤ ((bads s.l).length : Int)
    · obtain ⟨rfl, hf⟩ := hfull
      refine ⟨9, s, s, hI.same1, rfl, fun σ τ T => ?_, fun σ τ T => ?_⟩
      · exact (Corrupt_full K.b 0 ((slH σ 100 (kc s.kept)).length + 2 + 1) K.c (some ⟨K.bl, 0, none⟩) K.N K.cl K.bb σ s.kept.length s.n s.l (WH K s σ τ T) (by rw [← hnl]; rfl) (WH_at WH0_2) (by omega) hnl j hj hy hf).mono fun u M' ⟨h1, h2⟩ => ⟨h1, h2.symm⟩
      · exact ((rCorrupt_full K.rb 0 ((slH τ 100 (kc s.kept2)).length + 4 + 1) K.c (some ⟨K.rl, 0, none⟩) K.N K.rcl K.rbb τ s.kept2.length s.l2 (RH K s σ τ ([] ++ T)) (by rw [hl2, ← hnl]; rfl) (RH_at RH0_4) hcn (by rw [hl2]; exact hl16) j (by rw [hl2, ← hnl]; exact hj) (by rw [hl2]; simp at hcnt; omega)).pre fun z w h => own_wr (env := []) w h).post fun u M' ⟨h1, h2⟩ => ⟨_, ⟨h1, rfl⟩, fun z w h => own_rw (K := K) (s := s) (σ := σ) (τ := τ) (env := []) (T := T) w (by subst h2; exact h)⟩
    · have hm : y = true ∨ ((bads s.l).length : Int) < K.c.f := by
        cases y with
        | true => exact .inl rfl
        | false => exact .inr (by have : ¬ (K.c.f ≤ ((bads s.l).length : Int)) := fun h => hfull ⟨rfl, h⟩; omega)
      have hc2 : (cntTo s.l j s.l.length : Int) < K.c.f := by
        cases y with
        | true => simp at hcnt; omega
        | false =>
          rcases hm with h | h
          · cases h
          · simp at hcnt; omega
      have hb2 : ((bads (s.l.set j true)).length : Int) ≤ K.c.f := by
        cases y with
        | true => rw [show s.l.set j true = s.l from by obtain ⟨hh, hv⟩ := List.getElem?_eq_some_iff.1 hy; rw [← hv]; exact List.set_getElem_self hh]; exact hlb
        | false =>
          rw [bads_set hy]
          rcases hm with h | h
          · cases h
          · push_cast; omega
      refine ⟨0, ⟨s.n, s.ss, s.rs, s.l.set j true, s.l2, s.kept, s.kept2⟩, _, hI.mono s.n ⟨hI.n.1, by have := hI.n.2; omega⟩ (s.l.set j true) (by rw [List.length_set]; exact hI.ll) hb2, rfl, fun σ τ T => ?_, fun σ τ T => ?_⟩
      · refine (Corrupt_yes K.b 0 ((slH σ 100 (kc s.kept)).length + 2 + 1) K.c (some ⟨K.bl, 0, none⟩) K.N K.cl K.bb σ s.kept.length s.n s.l (WH K s σ τ T) (by rw [← hnl]; rfl) (WH_at WH0_2) (by omega) hnl j hj y hy hm).mono fun u M' ⟨h1, h2⟩ => ⟨h1, ?_⟩
        rw [h2, WH_l]
      · refine ((rCorrupt_yes K.rb 0 ((slH τ 100 (kc s.kept2)).length + 4 + 1) K.c (some ⟨K.rl, 0, none⟩) K.N K.rcl K.rbb τ s.kept2.length s.l2 (RH K ⟨s.n, s.ss, s.rs, s.l.set j true, s.l2, s.kept, s.kept2⟩ σ τ ([] ++ T)) (by rw [hl2, ← hnl]; rfl) (RH_at RH0_4) hcn (by rw [hl2]; exact hl16) j (by rw [hl2, ← hnl]; exact hj) (by rw [hl2]; exact hc2)).pre fun z w h => own_wr (K := K) (s := ⟨s.n, s.ss, s.rs, s.l.set j true, s.l2, s.kept, s.kept2⟩) (σ := σ) (τ := τ) (env := []) (T := T) w h).post fun u M' ⟨h1, h2⟩ => ⟨_, ⟨h1, rfl⟩, fun z w h => own_rw (K := K) (σ := σ) (τ := τ) (env := []) (T := T) w ?_⟩
        have e := RH_l (K := K) (s := ⟨s.n, s.ss, s.rs, s.l.set j true, s.l2, s.kept, s.kept2⟩) (σ := σ) (τ := τ) (T := [] ++ T) (l := s.l.set j true)
        rw [h2, hl2] at h
        rw [hl2] at e
        rw [e, hk2] at h
        exact h
end

end Go.Proofs.Ytphoapajlcaoeaa
/- walks -/
set_option linter.unusedVariables false
set_option linter.unusedSimpArgs false
set_option maxRecDepth 100000
set_option maxHeartbeats 4000000
namespace Go.Proofs.Ytphoapajlcaoeaa
open Go Go.X
/-- quorumite/quorumiteref9.SameInts -/
theorem SameInts_eq (zs : List Int) (A B : Option Addr) (n1 n2 cA cB : Nat) (M : Hp) (hA : RdS M A (zs.map (Value.int .i64))) (hB : RdS M B (zs.map (Value.int .i64))) (h1 : n1 = zs.length) (h2 : n2 = zs.length) (hl : zs.length ≤ 100000) : FnC Try.prog 25 #[.slice A n1 cA, .slice B n2 cB] M (fun v M' => v = .bool true ∧ M = M') := by
  subst h1
  subst h2
  refine FnC.intro Try.func25 rfl 26 rfl (by simp) (fun z => ?_)
  refine TC.env (E' := [(0, _), (1, _)]) (Sub.cons rfl (Sub.cons rfl (Sub.nil _))) ?_
  refine TC.sr ?_
  refine TL.v (Val.assign rfl) ?_
  refine TL.nt ?_
  refine TC.seq ?_
  refine TC.sr ?_
  refine TL.v (Val.move rfl) ?_
  refine TL.v (Val.lenSl rfl rfl sl22) ?_
  refine TL.v (Val.move rfl) ?_
  refine TL.v (Val.lenSl rfl rfl sl22) ?_
  refine TL.v (Val.neqI rfl rfl) ?_
  refine TL.nt ?_
  first
    | refine TC.condP rfl (fun c1 => ?_) (fun c1 => ?_)
    | refine TC.condN rfl (fun c1 => ?_) (fun c1 => ?_)
    | refine TC.condB rfl (fun c1 => ?_) (fun c1 => ?_)
    | refine TC.cond rfl (fun c1 => ?_) (fun c1 => ?_)
  · skip
    exact absurd rfl c1
  · skip
    refine TC.skip ?_
    refine AtX.then ?_
    refine TC.seq ?_
    refine TC.sr ?_
    refine TL.v (Val.assign rfl) ?_
    refine TL.nt ?_
    refine TC.block ?_
    refine TC.loop (ι := Nat) (fun k => [(0, .slice A zs.length cA), (1, .slice B zs.length cB), (5, .int .i64 (k : Nat))]) (fun _ => M) (fun k => k ≤ zs.length) (fun k => zs.length - k) 0 ?_ (Sub.cons rfl (Sub.cons rfl (Sub.cons rfl (Sub.nil _)))) (fun _ h => h) ?_
    · exact Nat.zero_le _
    intro k hk
    refine TC.seq ?_
    refine TC.sr ?_
    refine TL.v (Val.move rfl) ?_
    refine TL.v (Val.move rfl) ?_
    refine TL.v (Val.lenSl rfl rfl sl22) ?_
    refine TL.v (Val.lss rfl rfl) ?_
    refine TL.nt ?_
    first
      | refine TC.condP rfl (fun c2 => ?_) (fun c2 => ?_)
      | refine TC.condN rfl (fun c2 => ?_) (fun c2 => ?_)
      | refine TC.condB rfl (fun c2 => ?_) (fun c2 => ?_)
      | refine TC.cond rfl (fun c2 => ?_) (fun c2 => ?_)
    · skip
      refine TC.skip ?_
      refine AtX.then ?_
      refine TC.seq ?_
      refine TC.block ?_
      refine TC.seq ?_
      have hlt : k < zs.length := by omega
      obtain ⟨x, hx⟩ : ∃ x, zs[k]? = some x := ⟨_, List.getElem?_eq_getElem hlt⟩
      obtain ⟨bA, oA, rfl, hRA⟩ := RdS.get hA (by simp; omega)
      obtain ⟨bB, oB, rfl, hRB⟩ := RdS.get hB (by simp; omega)
      refine TC.drawLM mixed 9 ?_
      refine TA.tk 0 1 rfl rfl rfl (Val.move rfl) ?_
      refine TA.tk 1 3 rfl rfl rfl (Val.move rfl) ?_
      refine TA.tk 2 7 rfl rfl rfl (Val.indexAddr (i := k) (r := oA + k) rfl rfl sl22 sz3 rfl hlt (by omega)) ?_
      refine TA.tk 3 15 rfl rfl rfl (Val.loadRd (o := oA) (j := k) (v := .int .i64 x) rfl ag3 hRA rfl (map_get hx)) ?_
      refine TA.tk 4 31 rfl rfl rfl (Val.move rfl) ?_
      refine TA.tk 5 63 rfl rfl rfl (Val.move rfl) ?_
      refine TA.tk 6 127 rfl rfl rfl (Val.indexAddr (i := k) (r := oB + k) rfl rfl sl22 sz3 rfl hlt (by omega)) ?_
      refine TA.tk 7 255 rfl rfl rfl (Val.loadRd (o := oB) (j := k) (v := .int .i64 x) rfl ag3 hRB rfl (map_get hx)) ?_
      refine TA.tk 8 511 rfl rfl rfl (Val.neqI rfl rfl) ?_
      refine TA.done (by kernel_rfl) ?_
      refine AtX.then ?_
      first
        | refine TC.condP rfl (fun c3 => ?_) (fun c3 => ?_)
        | refine TC.condN rfl (fun c3 => ?_) (fun c3 => ?_)
        | refine TC.condB rfl (fun c3 => ?_) (fun c3 => ?_)
        | refine TC.cond rfl (fun c3 => ?_) (fun c3 => ?_)
      · skip
        exact absurd rfl c3
      · skip
        refine TC.skip ?_
        refine AtX.blk ?_
        refine AtX.then ?_
        refine TC.region ?_
        refine TL.v (Val.move rfl) ?_
        first
          | refine TL.v (Val.add rfl rfl (w_i64 (by omega) (by omega))) ?_
          | refine TL.v (Val.add rfl rfl rfl) ?_
        refine TL.v (Val.assign rfl) ?_
        refine TL.nil ?_
        refine AtX.round (k + 1) ?_ ?_ (Sub.cons rfl (Sub.cons rfl (Sub.cons rfl (Sub.nil _)))) (fun _ h => h)
        · omega
        · omega
    · skip
      refine TC.exit ?_
      refine AtX.seqX ?_
      refine AtX.seqX ?_
      refine AtX.hit ?_
      refine AtX.then ?_
      refine TC.sr ?_
      refine TL.v (Val.assign rfl) ?_
      refine TL.nt ?_
      refine TC.r1 (hM := (fun _ h => h)) (fn := Try.f25) (fun _ _ h => h) rfl (RV.tmp rfl) ?_
      exact ⟨rfl, rfl⟩

/-- quorumite/quorumiteref9.SameList -/
theorem SameList_eq (zs : List Int) (A B : Option Addr) (n1 n2 cA cB : Nat) (M : Hp) (hA : RdS M A (zs.map (Value.int .i64))) (hB : RdS M B (zs.map (Value.int .i64))) (h1 : n1 = zs.length) (h2 : n2 = zs.length) (hl : zs.length ≤ 100000) : FnC Try.prog 27 #[.slice A n1 cA, .slice B n2 cB] M (fun v M' => v = .bool true ∧ M = M') := by
  subst h1
  subst h2
  refine FnC.intro Try.func27 rfl 26 rfl (by simp) (fun z => ?_)
  refine TC.env (E' := [(0, _), (1, _)]) (Sub.cons rfl (Sub.cons rfl (Sub.nil _))) ?_
  refine TC.sr ?_
  refine TL.v (Val.assign rfl) ?_
  refine TL.nt ?_
  refine TC.seq ?_
  refine TC.sr ?_
  refine TL.v (Val.move rfl) ?_
  refine TL.v (Val.lenSl rfl rfl sl36) ?_
  refine TL.v (Val.move rfl) ?_
  refine TL.v (Val.lenSl rfl rfl sl36) ?_
  refine TL.v (Val.neqI rfl rfl) ?_
  refine TL.nt ?_
  first
    | refine TC.condP rfl (fun c1 => ?_) (fun c1 => ?_)
    | refine TC.condN rfl (fun c1 => ?_) (fun c1 => ?_)
    | refine TC.condB rfl (fun c1 => ?_) (fun c1 => ?_)
    | refine TC.cond rfl (fun c1 => ?_) (fun c1 => ?_)
  · skip
    exact absurd rfl c1
  · skip
    refine TC.skip ?_
    refine AtX.then ?_
    refine TC.seq ?_
    refine TC.sr ?_
    refine TL.v (Val.assign rfl) ?_
    refine TL.nt ?_
    refine TC.block ?_
    refine TC.loop (ι := Nat) (fun k => [(0, .slice A zs.length cA), (1, .slice B zs.length cB), (5, .int .i64 (k : Nat))]) (fun _ => M) (fun k => k ≤ zs.length) (fun k => zs.length - k) 0 ?_ (Sub.cons rfl (Sub.cons rfl (Sub.cons rfl (Sub.nil _)))) (fun _ h => h) ?_
    · exact Nat.zero_le _
    intro k hk
    refine TC.seq ?_
    refine TC.sr ?_
    refine TL.v (Val.move rfl) ?_
    refine TL.v (Val.move rfl) ?_
    refine TL.v (Val.lenSl rfl rfl sl36) ?_
    refine TL.v (Val.lss rfl rfl) ?_
    refine TL.nt ?_
    first
      | refine TC.condP rfl (fun c2 => ?_) (fun c2 => ?_)
      | refine TC.condN rfl (fun c2 => ?_) (fun c2 => ?_)
      | refine TC.condB rfl (fun c2 => ?_) (fun c2 => ?_)
      | refine TC.cond rfl (fun c2 => ?_) (fun c2 => ?_)
    · skip
      refine TC.skip ?_
      refine AtX.then ?_
      refine TC.seq ?_
      refine TC.block ?_
      refine TC.seq ?_
      have hlt : k < zs.length := by omega
      obtain ⟨x, hx⟩ : ∃ x, zs[k]? = some x := ⟨_, List.getElem?_eq_getElem hlt⟩
      obtain ⟨bA, oA, rfl, hRA⟩ := RdS.get hA (by simp; omega)
      obtain ⟨bB, oB, rfl, hRB⟩ := RdS.get hB (by simp; omega)
      refine TC.drawLM mixed 9 ?_
      refine TA.tk 0 1 rfl rfl rfl (Val.move rfl) ?_
      refine TA.tk 1 3 rfl rfl rfl (Val.move rfl) ?_
      refine TA.tk 2 7 rfl rfl rfl (Val.indexAddr (i := k) (r := oA + k) rfl rfl sl36 sz2 rfl hlt (by omega)) ?_
      refine TA.tk 3 15 rfl rfl rfl (Val.loadRd (o := oA) (j := k) (v := .int .i64 x) rfl ag2 hRA rfl (map_get hx)) ?_
      refine TA.tk 4 31 rfl rfl rfl (Val.move rfl) ?_
      refine TA.tk 5 63 rfl rfl rfl (Val.move rfl) ?_
      refine TA.tk 6 127 rfl rfl rfl (Val.indexAddr (i := k) (r := oB + k) rfl rfl sl36 sz2 rfl hlt (by omega)) ?_
      refine TA.tk 7 255 rfl rfl rfl (Val.loadRd (o := oB) (j := k) (v := .int .i64 x) rfl ag2 hRB rfl (map_get hx)) ?_
      refine TA.tk 8 511 rfl rfl rfl (Val.neqI rfl rfl) ?_
      refine TA.done (by kernel_rfl) ?_
      refine AtX.then ?_
      first
        | refine TC.condP rfl (fun c3 => ?_) (fun c3 => ?_)
        | refine TC.condN rfl (fun c3 => ?_) (fun c3 => ?_)
        | refine TC.condB rfl (fun c3 => ?_) (fun c3 => ?_)
        | refine TC.cond rfl (fun c3 => ?_) (fun c3 => ?_)
      · skip
        exact absurd rfl c3
      · skip
        refine TC.skip ?_
        refine AtX.blk ?_
        refine AtX.then ?_
        refine TC.region ?_
        refine TL.v (Val.move rfl) ?_
        first
          | refine TL.v (Val.add rfl rfl (w_i64 (by omega) (by omega))) ?_
          | refine TL.v (Val.add rfl rfl rfl) ?_
        refine TL.v (Val.assign rfl) ?_
        refine TL.nil ?_
        refine AtX.round (k + 1) ?_ ?_ (Sub.cons rfl (Sub.cons rfl (Sub.cons rfl (Sub.nil _)))) (fun _ h => h)
        · omega
        · omega
    · skip
      refine TC.exit ?_
      refine AtX.seqX ?_
      refine AtX.seqX ?_
      refine AtX.hit ?_
      refine AtX.then ?_
      refine TC.sr ?_
      refine TL.v (Val.assign rfl) ?_
      refine TL.nt ?_
      refine TC.r1 (hM := (fun _ h => h)) (fn := Try.f27) (fun _ _ h => h) rfl (RV.tmp rfl) ?_
      exact ⟨rfl, rfl⟩

end Go.Proofs.Ytphoapajlcaoeaa
/- walks -/
set_option linter.unusedVariables false
set_option linter.unusedSimpArgs false
set_option maxRecDepth 100000
set_option maxHeartbeats 4000000
namespace Go.Proofs.Ytphoapajlcaoeaa
open Go Go.X
/-- quorumite/quorumitelaw23.told -/
theorem told23_fn (M : Hp) : FnC Try.prog 13 #[] M (fun v M' => v = .bool true ∧ M = M') := by
  refine FnC.intro Try.func13 rfl 144 rfl (by simp) (fun z => ?_)
  refine TC.env (E' := []) (Sub.nil _) ?_
  refine TC.seq ?_
  refine TC.region ?_
  refine TL.val rfl rfl (Nat.le_of_ble_eq_true rfl) (Val.assign rfl) ?_
  refine TL.nil ?_
  refine AtX.then ?_
  refine TC.seq ?_
  refine TC.region ?_
  refine TL.does (some 19) rfl rfl rfl (Does.callF go45 rfl (Default_fn _)) ?_
  rintro _ _ ⟨rfl, rfl⟩
  refine TL.does (some 20) rfl rfl rfl (Does.callF go12 rfl (wNew_fn cfD 4 _ okD rfl)) ?_
  rintro _ _ ⟨b, bl, cl, spl, bb, ss, rfl, hss, hsw, rfl⟩
  obtain ⟨s0, s1, s2, s3, rfl⟩ := ss4 hss hsw
  refine TL.heap (M' := wob b cfD (some ⟨bl, 0, none⟩) 4 cl bb 4 none 0 0 :: (bb, row 4 (([false, false, false, false] : List Bool).map Value.bool)) :: (bl, row 57 (([.pointer (some ⟨s0, 0, none⟩), .pointer (some ⟨s1, 0, none⟩), .pointer (some ⟨s2, 0, none⟩), .pointer (some ⟨s3, 0, none⟩)] : List Value) ++ spl)) :: sobj s0 cfD.seed 0 0 0 :: sobj s1 cfD.seed 1 0 0 :: sobj s2 cfD.seed 2 0 0 :: sobj s3 cfD.seed 3 0 0 :: M) (fun w h => h) ?_
  refine TL.val rfl rfl (Nat.le_of_ble_eq_true rfl) (Val.assign rfl) ?_
  refine TL.nil ?_
  refine AtX.then ?_
  refine TC.env (E' := [(0, _), (1, _)]) (Sub.cons rfl (Sub.cons rfl (Sub.nil _))) ?_
  refine TC.seq ?_
  refine TC.seq ?_
  refine TC.region ?_
  refine TL.val rfl rfl (Nat.le_of_ble_eq_true rfl) (Val.move rfl) ?_
  refine TL.val rfl rfl (Nat.le_of_ble_eq_true rfl) (Val.eqlNil rfl rfl pt28) ?_
  refine TL.nil ?_
  refine AtX.then ?_
  refine TC.env (E' := [(0, _), (1, _), (22, _)]) (Sub.cons rfl (Sub.cons rfl (Sub.cons rfl (Sub.nil _)))) ?_
  first | refine TC.condP rfl (fun c1 => ?_) (fun c1 => ?_) | refine TC.condN rfl (fun c1 => ?_) (fun c1 => ?_) | refine TC.condB rfl (fun c1 => ?_) (fun c1 => ?_) | refine TC.cond rfl (fun c1 => ?_) (fun c1 => ?_)
  · skip
    (exfalso; simp at c1)
  · skip
    refine TC.env (E' := [(0, _), (1, _)]) (Sub.cons rfl (Sub.cons rfl (Sub.nil _))) ?_
    refine TC.skip ?_
    refine AtX.then ?_
    refine TC.env (E' := [(0, _), (1, _)]) (Sub.cons rfl (Sub.cons rfl (Sub.nil _))) ?_
    refine TC.seq ?_
    refine TC.region ?_
    refine TL.val rfl rfl (Nat.le_of_ble_eq_true rfl) (Val.move rfl) ?_
    refine TL.does (some 25) rfl rfl rfl (Does.callF go16 rfl (wSample_ok b bl cl bb cfD none [] 0 [false, false, false, false] [.pointer (some ⟨s0, 0, none⟩), .pointer (some ⟨s1, 0, none⟩), .pointer (some ⟨s2, 0, none⟩), .pointer (some ⟨s3, 0, none⟩)] spl 0 1 3 ((bb, row 4 (([false, false, false, false] : List Bool).map Value.bool)) :: (bl, row 57 (([.pointer (some ⟨s0, 0, none⟩), .pointer (some ⟨s1, 0, none⟩), .pointer (some ⟨s2, 0, none⟩), .pointer (some ⟨s3, 0, none⟩)] : List Value) ++ spl)) :: sobj s0 cfD.seed 0 0 0 :: sobj s1 cfD.seed 1 0 0 :: sobj s2 cfD.seed 2 0 0 :: sobj s3 cfD.seed 3 0 0 :: M) rfl rfl rfl s1 1 cfD.seed 0 0 rfl rfl (slOk_nil 4) (by decide) ⟨by decide, by decide⟩ 0 2 9 (by decide) rfl rfl)) ?_
    rintro _ _ ⟨bE, cE, spE, σ1, rfl, hok1, rfl⟩
    obtain ⟨bk, ck, spk, rfl, hck⟩ := hok1.some (by decide)
    refine TL.heap (M' := wob b cfD (some ⟨bl, 0, none⟩) 4 cl bb 4 (some (bk, ck, spk)) 1 1 :: (bk, row 100 ([(⟨1, 0, 2, 9⟩ : Smp)].flatMap Smp.cs ++ spk)) :: (bb, row 4 (([false, false, false, false] : List Bool).map Value.bool)) :: (bl, row 57 (([.pointer (some ⟨s0, 0, none⟩), .pointer (some ⟨s1, 0, none⟩), .pointer (some ⟨s2, 0, none⟩), .pointer (some ⟨s3, 0, none⟩)] : List Value) ++ spl)) :: sobj s0 cfD.seed 0 0 0 :: sobj s1 cfD.seed 1 0 1 :: sobj s2 cfD.seed 2 0 0 :: sobj s3 cfD.seed 3 0 0 :: M) (fun w h => h.drop) ?_
    refine TL.val rfl rfl (Nat.le_of_ble_eq_true rfl) (Val.move rfl) ?_
    refine TL.val rfl rfl (Nat.le_of_ble_eq_true rfl) (Val.extract rfl rfl) ?_
    refine TL.val rfl rfl (Nat.le_of_ble_eq_true rfl) (Val.extract rfl rfl) ?_
    refine TL.val rfl rfl (Nat.le_of_ble_eq_true rfl) (Val.assign rfl) ?_
    refine TL.val rfl rfl (Nat.le_of_ble_eq_true rfl) (Val.assign rfl) ?_
    refine TL.nil ?_
    refine AtX.then ?_
    refine TC.env (E' := [(0, _), (1, _), (2, _), (3, _)]) (Sub.cons rfl (Sub.cons rfl (Sub.cons rfl (Sub.cons rfl (Sub.nil _))))) ?_
    refine TC.seq ?_
    refine TC.region ?_
    refine TL.val rfl rfl (Nat.le_of_ble_eq_true rfl) (Val.move rfl) ?_
    refine TL.does (some 30) rfl rfl rfl (Does.callF go16 rfl (wSample_twice b bl cl bb cfD (some (bk, ck, spk)) [(⟨1, 0, 2, 9⟩ : Smp)] 1 [false, false, false, false] [.pointer (some ⟨s0, 0, none⟩), .pointer (some ⟨s1, 0, none⟩), .pointer (some ⟨s2, 0, none⟩), .pointer (some ⟨s3, 0, none⟩)] spl 0 1 3 ((bb, row 4 (([false, false, false, false] : List Bool).map Value.bool)) :: (bl, row 57 (([.pointer (some ⟨s0, 0, none⟩), .pointer (some ⟨s1, 0, none⟩), .pointer (some ⟨s2, 0, none⟩), .pointer (some ⟨s3, 0, none⟩)] : List Value) ++ spl)) :: sobj s0 cfD.seed 0 0 0 :: sobj s1 cfD.seed 1 0 1 :: sobj s2 cfD.seed 2 0 0 :: sobj s3 cfD.seed 3 0 0 :: M) rfl rfl rfl s1 1 cfD.seed 0 1 rfl rfl ⟨rfl, hck⟩ (by decide) ⟨by decide, by decide⟩ 0 2 8 (by decide) rfl rfl)) ?_
    rintro _ _ ⟨rfl, rfl⟩
    refine TL.heap (M' := wob b cfD (some ⟨bl, 0, none⟩) 4 cl bb 4 (some (bk, ck, spk)) 1 1 :: (bk, row 100 ([(⟨1, 0, 2, 9⟩ : Smp)].flatMap Smp.cs ++ spk)) :: (bb, row 4 (([false, false, false, false] : List Bool).map Value.bool)) :: (bl, row 57 (([.pointer (some ⟨s0, 0, none⟩), .pointer (some ⟨s1, 0, none⟩), .pointer (some ⟨s2, 0, none⟩), .pointer (some ⟨s3, 0, none⟩)] : List Value) ++ spl)) :: sobj s0 cfD.seed 0 0 0 :: sobj s1 cfD.seed 1 0 1 :: sobj s2 cfD.seed 2 0 0 :: sobj s3 cfD.seed 3 0 0 :: M) (fun w h => h) ?_
    refine TL.val rfl rfl (Nat.le_of_ble_eq_true rfl) (Val.move rfl) ?_
    refine TL.val rfl rfl (Nat.le_of_ble_eq_true rfl) (Val.extract rfl rfl) ?_
    refine TL.val rfl rfl (Nat.le_of_ble_eq_true rfl) (Val.extract rfl rfl) ?_
    refine TL.val rfl rfl (Nat.le_of_ble_eq_true rfl) (Val.assign rfl) ?_
    refine TL.val rfl rfl (Nat.le_of_ble_eq_true rfl) (Val.assign rfl) ?_
    refine TL.nil ?_
    refine AtX.then ?_
    refine TC.env (E' := [(0, _), (1, _), (2, _), (3, _), (5, _)]) (Sub.cons rfl (Sub.cons rfl (Sub.cons rfl (Sub.cons rfl (Sub.cons rfl (Sub.nil _)))))) ?_
    refine TC.seq ?_
    refine TC.region ?_
    refine TL.val rfl rfl (Nat.le_of_ble_eq_true rfl) (Val.move rfl) ?_
    refine TL.does (some 35) rfl rfl rfl (Does.callF go16 rfl (wSample_no b 0 cfD _ 4 cl bb 4 (some (bk, ck, spk)) 1 1 _ rfl 4 0 2 9 (.inr (by decide)))) ?_
    rintro _ _ ⟨rfl, rfl⟩
    refine TL.val rfl rfl (Nat.le_of_ble_eq_true rfl) (Val.move rfl) ?_
    refine TL.val rfl rfl (Nat.le_of_ble_eq_true rfl) (Val.extract rfl rfl) ?_
    refine TL.val rfl rfl (Nat.le_of_ble_eq_true rfl) (Val.extract rfl rfl) ?_
    refine TL.val rfl rfl (Nat.le_of_ble_eq_true rfl) (Val.assign rfl) ?_
    refine TL.val rfl rfl (Nat.le_of_ble_eq_true rfl) (Val.assign rfl) ?_
    refine TL.nil ?_
    refine AtX.then ?_
    refine TC.env (E' := [(0, _), (1, _), (2, _), (3, _), (5, _), (7, _)]) (Sub.cons rfl (Sub.cons rfl (Sub.cons rfl (Sub.cons rfl (Sub.cons rfl (Sub.cons rfl (Sub.nil _))))))) ?_
    refine TC.seq ?_
    refine TC.region ?_
    refine TL.val rfl rfl (Nat.le_of_ble_eq_true rfl) (Val.move rfl) ?_
    refine TL.does (some 40) rfl rfl rfl (Does.callF go23 rfl (Forge_no b 0 2 cfD _ 4 cl bb (some (bk, ck, spk)) 1 1 [false, false, false, false] _ rfl rfl rfl 2 (by decide) rfl 0 1 5 1 0)) ?_
    rintro _ _ ⟨rfl, rfl⟩
    refine TL.val rfl rfl (Nat.le_of_ble_eq_true rfl) (Val.move rfl) ?_
    refine TL.val rfl rfl (Nat.le_of_ble_eq_true rfl) (Val.extract rfl rfl) ?_
    refine TL.val rfl rfl (Nat.le_of_ble_eq_true rfl) (Val.extract rfl rfl) ?_
    refine TL.val rfl rfl (Nat.le_of_ble_eq_true rfl) (Val.assign rfl) ?_
    refine TL.val rfl rfl (Nat.le_of_ble_eq_true rfl) (Val.assign rfl) ?_
    refine TL.nil ?_
    refine AtX.then ?_
    refine TC.env (E' := [(0, _), (1, _), (2, _), (3, _), (5, _), (7, _), (9, _)]) (Sub.cons rfl (Sub.cons rfl (Sub.cons rfl (Sub.cons rfl (Sub.cons rfl (Sub.cons rfl (Sub.cons rfl (Sub.nil _)))))))) ?_
    refine TC.seq ?_
    refine TC.region ?_
    refine TL.val rfl rfl (Nat.le_of_ble_eq_true rfl) (Val.move rfl) ?_
    refine TL.does (some 44) rfl rfl rfl (Does.callF go14 rfl (Corrupt_yes b 0 2 cfD _ 4 cl bb (some (bk, ck, spk)) 1 1 [false, false, false, false] _ rfl rfl (by decide) rfl 2 (by decide) false rfl (.inr (by decide)))) ?_
    rintro _ _ ⟨rfl, rfl⟩
    refine TL.heap (M' := wob b cfD (some ⟨bl, 0, none⟩) 4 cl bb 4 (some (bk, ck, spk)) 1 1 :: (bk, row 100 ([(⟨1, 0, 2, 9⟩ : Smp)].flatMap Smp.cs ++ spk)) :: (bb, row 4 (([false, false, true, false] : List Bool).map Value.bool)) :: (bl, row 57 (([.pointer (some ⟨s0, 0, none⟩), .pointer (some ⟨s1, 0, none⟩), .pointer (some ⟨s2, 0, none⟩), .pointer (some ⟨s3, 0, none⟩)] : List Value) ++ spl)) :: sobj s0 cfD.seed 0 0 0 :: sobj s1 cfD.seed 1 0 1 :: sobj s2 cfD.seed 2 0 0 :: sobj s3 cfD.seed 3 0 0 :: M) (fun w h => h) ?_
    refine TL.val rfl rfl (Nat.le_of_ble_eq_true rfl) (Val.move rfl) ?_
    refine TL.does (some 46) rfl rfl rfl (Does.callF go14 rfl (Corrupt_full b 0 2 cfD _ 4 cl bb (some (bk, ck, spk)) 1 1 [false, false, true, false] _ rfl rfl (by decide) rfl 3 (by decide) rfl (by decide))) ?_
    rintro _ _ ⟨rfl, rfl⟩
    refine TL.val rfl rfl (Nat.le_of_ble_eq_true rfl) (Val.assign rfl) ?_
    refine TL.val rfl rfl (Nat.le_of_ble_eq_true rfl) (Val.assign rfl) ?_
    refine TL.nil ?_
    refine AtX.then ?_
    refine TC.env (E' := [(0, _), (1, _), (2, _), (3, _), (5, _), (7, _), (9, _), (10, _), (11, _)]) (Sub.cons rfl (Sub.cons rfl (Sub.cons rfl (Sub.cons rfl (Sub.cons rfl (Sub.cons rfl (Sub.cons rfl (Sub.cons rfl (Sub.cons rfl (Sub.nil _)))))))))) ?_
    refine TC.seq ?_
    refine TC.region ?_
    refine TL.val rfl rfl (Nat.le_of_ble_eq_true rfl) (Val.move rfl) ?_
    refine TL.does (some 49) rfl rfl rfl (Does.callF go16 rfl (wSample_bad b bl cl bb cfD (some (bk, ck, spk)) [(⟨1, 0, 2, 9⟩ : Smp)] 1 [false, false, true, false] [.pointer (some ⟨s0, 0, none⟩), .pointer (some ⟨s1, 0, none⟩), .pointer (some ⟨s2, 0, none⟩), .pointer (some ⟨s3, 0, none⟩)] spl 0 1 4 ((bb, row 4 (([false, false, true, false] : List Bool).map Value.bool)) :: (bl, row 57 (([.pointer (some ⟨s0, 0, none⟩), .pointer (some ⟨s1, 0, none⟩), .pointer (some ⟨s2, 0, none⟩), .pointer (some ⟨s3, 0, none⟩)] : List Value) ++ spl)) :: sobj s0 cfD.seed 0 0 0 :: sobj s1 cfD.seed 1 0 1 :: sobj s2 cfD.seed 2 0 0 :: sobj s3 cfD.seed 3 0 0 :: M) rfl rfl rfl s2 2 cfD.seed 0 0 rfl rfl ⟨rfl, hck⟩ (by decide) ⟨by decide, by decide⟩ 0 2 7 (by decide) rfl)) ?_
    rintro _ _ ⟨bF, cF, spF, rfl, rfl⟩
    refine TL.heap (M' := wob b cfD (some ⟨bl, 0, none⟩) 4 cl bb 4 (some (bk, ck, spk)) 1 2 :: (bk, row 100 ([(⟨1, 0, 2, 9⟩ : Smp)].flatMap Smp.cs ++ spk)) :: (bb, row 4 (([false, false, true, false] : List Bool).map Value.bool)) :: (bl, row 57 (([.pointer (some ⟨s0, 0, none⟩), .pointer (some ⟨s1, 0, none⟩), .pointer (some ⟨s2, 0, none⟩), .pointer (some ⟨s3, 0, none⟩)] : List Value) ++ spl)) :: sobj s0 cfD.seed 0 0 0 :: sobj s1 cfD.seed 1 0 1 :: sobj s2 cfD.seed 2 0 1 :: sobj s3 cfD.seed 3 0 0 :: M) (fun w h => h.drop) ?_
    refine TL.val rfl rfl (Nat.le_of_ble_eq_true rfl) (Val.move rfl) ?_
    refine TL.val rfl rfl (Nat.le_of_ble_eq_true rfl) (Val.extract rfl rfl) ?_
    refine TL.val rfl rfl (Nat.le_of_ble_eq_true rfl) (Val.extract rfl rfl) ?_
    refine TL.val rfl rfl (Nat.le_of_ble_eq_true rfl) (Val.assign rfl) ?_
    refine TL.val rfl rfl (Nat.le_of_ble_eq_true rfl) (Val.assign rfl) ?_
    refine TL.nil ?_
    refine AtX.then ?_
    refine TC.env (E' := [(0, _), (1, _), (2, _), (3, _), (5, _), (7, _), (9, _), (10, _), (11, _), (13, _)]) (Sub.cons rfl (Sub.cons rfl (Sub.cons rfl (Sub.cons rfl (Sub.cons rfl (Sub.cons rfl (Sub.cons rfl (Sub.cons rfl (Sub.cons rfl (Sub.cons rfl (Sub.nil _))))))))))) ?_
    refine TC.seq ?_
    refine TC.region ?_
    refine TL.val rfl rfl (Nat.le_of_ble_eq_true rfl) (Val.move rfl) ?_
    refine TL.does (some 54) rfl rfl rfl (Does.callF go23 rfl (Forge_ok b 0 2 cfD _ 4 cl bb (some (bk, ck, spk)) 1 2 [false, false, true, false] _ rfl rfl rfl 2 (by decide) rfl ⟨by decide, by decide⟩ 0 1 5 1 0 (by decide))) ?_
    rintro _ _ ⟨bG, cG, spG, rfl, hcG, rfl⟩
    refine TL.heap (M' := wob b cfD (some ⟨bl, 0, none⟩) 4 cl bb 4 (some (bk, ck, spk)) 1 3 :: (bk, row 100 ([(⟨1, 0, 2, 9⟩ : Smp)].flatMap Smp.cs ++ spk)) :: (bb, row 4 (([false, false, true, false] : List Bool).map Value.bool)) :: (bl, row 57 (([.pointer (some ⟨s0, 0, none⟩), .pointer (some ⟨s1, 0, none⟩), .pointer (some ⟨s2, 0, none⟩), .pointer (some ⟨s3, 0, none⟩)] : List Value) ++ spl)) :: sobj s0 cfD.seed 0 0 0 :: sobj s1 cfD.seed 1 0 1 :: sobj s2 cfD.seed 2 0 1 :: sobj s3 cfD.seed 3 0 0 :: M) (fun w h => h.drop) ?_
    refine TL.val rfl rfl (Nat.le_of_ble_eq_true rfl) (Val.move rfl) ?_
    refine TL.val rfl rfl (Nat.le_of_ble_eq_true rfl) (Val.extract rfl rfl) ?_
    refine TL.val rfl rfl (Nat.le_of_ble_eq_true rfl) (Val.extract rfl rfl) ?_
    refine TL.val rfl rfl (Nat.le_of_ble_eq_true rfl) (Val.assign rfl) ?_
    refine TL.val rfl rfl (Nat.le_of_ble_eq_true rfl) (Val.assign rfl) ?_
    refine TL.nil ?_
    refine AtX.then ?_
    refine TC.env (E' := [(0, _), (1, _), (2, _), (3, _), (5, _), (7, _), (9, _), (10, _), (11, _), (13, _), (14, _), (15, _)]) (Sub.cons rfl (Sub.cons rfl (Sub.cons rfl (Sub.cons rfl (Sub.cons rfl (Sub.cons rfl (Sub.cons rfl (Sub.cons rfl (Sub.cons rfl (Sub.cons rfl (Sub.cons rfl (Sub.cons rfl (Sub.nil _))))))))))))) ?_
    refine TC.seq ?_
    refine TC.region ?_
    refine TL.val rfl rfl (Nat.le_of_ble_eq_true rfl) (Val.move rfl) ?_
    refine TL.does (some 58) rfl rfl rfl (Does.callF go15 rfl (Bad_fn b 0 2 cfD _ 4 cl bb (some (bk, ck, spk)) 1 3 [false, false, true, false] _ rfl rfl (by decide))) ?_
    rintro _ _ ⟨τ, rfl, hokτ, rfl⟩
    rw [show bads [false, false, true, false] = [2] from rfl] at hokτ ⊢
    obtain ⟨bt, ct, spt, rfl, hct⟩ := hokτ.some (by decide)
    refine TL.val rfl rfl (Nat.le_of_ble_eq_true rfl) (Val.assign rfl) ?_
    refine TL.nil ?_
    refine AtX.then ?_
    refine TC.env (E' := [(0, _), (1, _), (2, _), (3, _), (5, _), (7, _), (9, _), (10, _), (11, _), (13, _), (14, _), (15, _), (16, _)]) (Sub.cons rfl (Sub.cons rfl (Sub.cons rfl (Sub.cons rfl (Sub.cons rfl (Sub.cons rfl (Sub.cons rfl (Sub.cons rfl (Sub.cons rfl (Sub.cons rfl (Sub.cons rfl (Sub.cons rfl (Sub.cons rfl (Sub.nil _)))))))))))))) ?_
    refine TC.seq ?_
    refine TC.region ?_
    refine TL.val rfl rfl (Nat.le_of_ble_eq_true rfl) (Val.move rfl) ?_
    refine TL.does (some 60) rfl rfl rfl (Does.callF go17 rfl (Honest_fn b 1 3 cfD _ 4 cl bb (some (bk, ck, spk)) 1 3 [(⟨1, 0, 2, 9⟩ : Smp)] [false, false, true, false] _ rfl rfl rfl (by decide) (.some (rd_row0 (i := 2) (sp := spk) rfl)) rfl (by decide) 0 2)) ?_
    rintro _ _ ⟨ω, rfl, hokω, rfl⟩
    rw [show hon [false, false, true, false] [(⟨1, 0, 2, 9⟩ : Smp)] 0 2 = [9] from rfl] at hokω ⊢
    obtain ⟨bo, co, spo, rfl, hco⟩ := hokω.some (by decide)
    refine TL.val rfl rfl (Nat.le_of_ble_eq_true rfl) (Val.assign rfl) ?_
    refine TL.nil ?_
    refine AtX.then ?_
    refine TC.env (E' := [(0, _), (1, _), (2, _), (3, _), (5, _), (7, _), (9, _), (10, _), (11, _), (13, _), (14, _), (15, _), (16, _), (17, _)]) (Sub.cons rfl (Sub.cons rfl (Sub.cons rfl (Sub.cons rfl (Sub.cons rfl (Sub.cons rfl (Sub.cons rfl (Sub.cons rfl (Sub.cons rfl (Sub.cons rfl (Sub.cons rfl (Sub.cons rfl (Sub.cons rfl (Sub.cons rfl (Sub.nil _))))))))))))))) ?_
    refine TC.seq ?_
    refine TC.region ?_
    refine TL.val rfl rfl (Nat.le_of_ble_eq_true rfl) (Val.assign rfl) ?_
    refine TL.nil ?_
    refine AtX.then ?_
    refine TC.env (E' := [(0, _), (1, _), (2, _), (3, _), (5, _), (7, _), (9, _), (10, _), (11, _), (13, _), (14, _), (15, _), (16, _), (17, _), (18, _)]) (Sub.cons rfl (Sub.cons rfl (Sub.cons rfl (Sub.cons rfl (Sub.cons rfl (Sub.cons rfl (Sub.cons rfl (Sub.cons rfl (Sub.cons rfl (Sub.cons rfl (Sub.cons rfl (Sub.cons rfl (Sub.cons rfl (Sub.cons rfl (Sub.cons rfl (Sub.nil _)))))))))))))))) ?_
    refine TC.seq ?_
    refine TC.region ?_
    refine TL.val rfl rfl (Nat.le_of_ble_eq_true rfl) (Val.move rfl) ?_
    refine TL.val rfl rfl (Nat.le_of_ble_eq_true rfl) (Val.same (v' := .bool true) (Val.eqlI rfl rfl) (rfl)) ?_
    refine TL.val rfl rfl (Nat.le_of_ble_eq_true rfl) (Val.move rfl) ?_
    refine TL.valYes rfl rfl (Nat.le_of_ble_eq_true rfl) rfl (Nat.le_of_ble_eq_true rfl) rfl (Val.move rfl) ?_
    refine TL.valYes rfl rfl (Nat.le_of_ble_eq_true rfl) rfl (Nat.le_of_ble_eq_true rfl) rfl (Val.lenSl rfl rfl sl37) ?_
    refine TL.valYes rfl rfl (Nat.le_of_ble_eq_true rfl) rfl (Nat.le_of_ble_eq_true rfl) rfl (Val.same (v' := .bool true) (Val.eqlI rfl rfl) (rfl)) ?_
    refine TL.val rfl rfl (Nat.le_of_ble_eq_true rfl) (Val.pickAnd rfl rfl rfl) ?_
    refine TL.val rfl rfl (Nat.le_of_ble_eq_true rfl) (Val.move rfl) ?_
    refine TL.valYes rfl rfl (Nat.le_of_ble_eq_true rfl) rfl (Nat.le_of_ble_eq_true rfl) rfl (Val.move rfl) ?_
    refine TL.valYes rfl rfl (Nat.le_of_ble_eq_true rfl) rfl (Nat.le_of_ble_eq_true rfl) rfl (Val.same (v' := .bool true) (Val.eqlI rfl rfl) (rfl)) ?_
    refine TL.val rfl rfl (Nat.le_of_ble_eq_true rfl) (Val.pickAnd rfl rfl rfl) ?_
    refine TL.val rfl rfl (Nat.le_of_ble_eq_true rfl) (Val.move rfl) ?_
    refine TL.valYes rfl rfl (Nat.le_of_ble_eq_true rfl) rfl (Nat.le_of_ble_eq_true rfl) rfl (Val.move rfl) ?_
    refine TL.valYes rfl rfl (Nat.le_of_ble_eq_true rfl) rfl (Nat.le_of_ble_eq_true rfl) rfl (Val.same (v' := .bool true) (Val.eqlI rfl rfl) (rfl)) ?_
    refine TL.val rfl rfl (Nat.le_of_ble_eq_true rfl) (Val.pickAnd rfl rfl rfl) ?_
    refine TL.val rfl rfl (Nat.le_of_ble_eq_true rfl) (Val.move rfl) ?_
    refine TL.valYes rfl rfl (Nat.le_of_ble_eq_true rfl) rfl (Nat.le_of_ble_eq_true rfl) rfl (Val.move rfl) ?_
    refine TL.valYes rfl rfl (Nat.le_of_ble_eq_true rfl) rfl (Nat.le_of_ble_eq_true rfl) rfl (Val.same (v' := .bool true) (Val.eqlI rfl rfl) (rfl)) ?_
    refine TL.val rfl rfl (Nat.le_of_ble_eq_true rfl) (Val.pickAnd rfl rfl rfl) ?_
    refine TL.val rfl rfl (Nat.le_of_ble_eq_true rfl) (Val.move rfl) ?_
    refine TL.valYes rfl rfl (Nat.le_of_ble_eq_true rfl) rfl (Nat.le_of_ble_eq_true rfl) rfl (Val.move rfl) ?_
    refine TL.valYes rfl rfl (Nat.le_of_ble_eq_true rfl) rfl (Nat.le_of_ble_eq_true rfl) rfl (Val.same (v' := .bool true) (Val.eqlI rfl rfl) (rfl)) ?_
    refine TL.val rfl rfl (Nat.le_of_ble_eq_true rfl) (Val.pickAnd rfl rfl rfl) ?_
    refine TL.val rfl rfl (Nat.le_of_ble_eq_true rfl) (Val.move rfl) ?_
    refine TL.valYes rfl rfl (Nat.le_of_ble_eq_true rfl) rfl (Nat.le_of_ble_eq_true rfl) rfl (Val.move rfl) ?_
    refine TL.valYes rfl rfl (Nat.le_of_ble_eq_true rfl) rfl (Nat.le_of_ble_eq_true rfl) rfl (Val.same (v' := .bool true) (Val.eqlI rfl rfl) (rfl)) ?_
    refine TL.val rfl rfl (Nat.le_of_ble_eq_true rfl) (Val.pickAnd rfl rfl rfl) ?_
    refine TL.val rfl rfl (Nat.le_of_ble_eq_true rfl) (Val.move rfl) ?_
    refine TL.valYes rfl rfl (Nat.le_of_ble_eq_true rfl) rfl (Nat.le_of_ble_eq_true rfl) rfl (Val.move rfl) ?_
    refine TL.doesYes (some 90) rfl rfl rfl (Nat.le_of_ble_eq_true rfl) rfl rfl (Does.callF go14 rfl (Corrupt_yes b 2 4 cfD _ 4 cl bb (some (bk, ck, spk)) 1 3 [false, false, true, false] _ rfl rfl (by decide) rfl 2 (by decide) true rfl (.inl rfl))) ?_
    rintro _ _ ⟨rfl, rfl⟩
    refine TL.valYes rfl rfl (Nat.le_of_ble_eq_true rfl) rfl (Nat.le_of_ble_eq_true rfl) rfl (Val.same (v' := .bool true) (Val.eqlI rfl rfl) (rfl)) ?_
    refine TL.val rfl rfl (Nat.le_of_ble_eq_true rfl) (Val.pickAnd rfl rfl rfl) ?_
    refine TL.val rfl rfl (Nat.le_of_ble_eq_true rfl) (Val.move rfl) ?_
    refine TL.valYes rfl rfl (Nat.le_of_ble_eq_true rfl) rfl (Nat.le_of_ble_eq_true rfl) rfl (Val.move rfl) ?_
    refine TL.valYes rfl rfl (Nat.le_of_ble_eq_true rfl) rfl (Nat.le_of_ble_eq_true rfl) rfl (Val.same (v' := .bool true) (Val.eqlI rfl rfl) (rfl)) ?_
    refine TL.val rfl rfl (Nat.le_of_ble_eq_true rfl) (Val.pickAnd rfl rfl rfl) ?_
    refine TL.val rfl rfl (Nat.le_of_ble_eq_true rfl) (Val.move rfl) ?_
    refine TL.valYes rfl rfl (Nat.le_of_ble_eq_true rfl) rfl (Nat.le_of_ble_eq_true rfl) rfl (Val.move rfl) ?_
    refine TL.valYes rfl rfl (Nat.le_of_ble_eq_true rfl) rfl (Nat.le_of_ble_eq_true rfl) rfl (Val.same (v' := .bool true) (Val.eqlI rfl rfl) (rfl)) ?_
    refine TL.val rfl rfl (Nat.le_of_ble_eq_true rfl) (Val.pickAnd rfl rfl rfl) ?_
    refine TL.val rfl rfl (Nat.le_of_ble_eq_true rfl) (Val.move rfl) ?_
    refine TL.valYes rfl rfl (Nat.le_of_ble_eq_true rfl) rfl (Nat.le_of_ble_eq_true rfl) rfl (Val.move rfl) ?_
    refine TL.valYes rfl rfl (Nat.le_of_ble_eq_true rfl) rfl (Nat.le_of_ble_eq_true rfl) rfl (Val.lenSl rfl rfl sl37) ?_
    refine TL.valYes rfl rfl (Nat.le_of_ble_eq_true rfl) rfl (Nat.le_of_ble_eq_true rfl) rfl (Val.same (v' := .bool true) (Val.eqlI rfl rfl) (rfl)) ?_
    refine TL.val rfl rfl (Nat.le_of_ble_eq_true rfl) (Val.pickAnd rfl rfl rfl) ?_
    refine TL.val rfl rfl (Nat.le_of_ble_eq_true rfl) (Val.move rfl) ?_
    refine TL.valYes rfl rfl (Nat.le_of_ble_eq_true rfl) rfl (Nat.le_of_ble_eq_true rfl) rfl (Val.move rfl) ?_
    refine TL.valYes rfl rfl (Nat.le_of_ble_eq_true rfl) rfl (Nat.le_of_ble_eq_true rfl) rfl (Val.lenSl rfl rfl sl22) ?_
    refine TL.valYes rfl rfl (Nat.le_of_ble_eq_true rfl) rfl (Nat.le_of_ble_eq_true rfl) rfl (Val.same (v' := .bool true) (Val.eqlI rfl rfl) (rfl)) ?_
    refine TL.val rfl rfl (Nat.le_of_ble_eq_true rfl) (Val.pickAnd rfl rfl rfl) ?_
    refine TL.val rfl rfl (Nat.le_of_ble_eq_true rfl) (Val.move rfl) ?_
    refine TL.valYes rfl rfl (Nat.le_of_ble_eq_true rfl) rfl (Nat.le_of_ble_eq_true rfl) rfl (Val.move rfl) ?_
    refine TL.valYes rfl rfl (Nat.le_of_ble_eq_true rfl) rfl (Nat.le_of_ble_eq_true rfl) rfl (Val.indexAddr (i := 0) rfl rfl sl22 sz3 rfl (by first | decide | omega) rfl) ?_
    refine TL.valYes rfl rfl (Nat.le_of_ble_eq_true rfl) rfl (Nat.le_of_ble_eq_true rfl) rfl (Val.load 1 rfl ag3 rfl rfl) ?_
    refine TL.valYes rfl rfl (Nat.le_of_ble_eq_true rfl) rfl (Nat.le_of_ble_eq_true rfl) rfl (Val.same (v' := .bool true) (Val.eqlI rfl rfl) (rfl)) ?_
    refine TL.val rfl rfl (Nat.le_of_ble_eq_true rfl) (Val.pickAnd rfl rfl rfl) ?_
    refine TL.val rfl rfl (Nat.le_of_ble_eq_true rfl) (Val.move rfl) ?_
    refine TL.valYes rfl rfl (Nat.le_of_ble_eq_true rfl) rfl (Nat.le_of_ble_eq_true rfl) rfl (Val.move rfl) ?_
    refine TL.valYes rfl rfl (Nat.le_of_ble_eq_true rfl) rfl (Nat.le_of_ble_eq_true rfl) rfl (Val.lenSl rfl rfl sl36) ?_
    refine TL.valYes rfl rfl (Nat.le_of_ble_eq_true rfl) rfl (Nat.le_of_ble_eq_true rfl) rfl (Val.same (v' := .bool true) (Val.eqlI rfl rfl) (rfl)) ?_
    refine TL.val rfl rfl (Nat.le_of_ble_eq_true rfl) (Val.pickAnd rfl rfl rfl) ?_
    refine TL.val rfl rfl (Nat.le_of_ble_eq_true rfl) (Val.move rfl) ?_
    refine TL.valYes rfl rfl (Nat.le_of_ble_eq_true rfl) rfl (Nat.le_of_ble_eq_true rfl) rfl (Val.move rfl) ?_
    refine TL.valYes rfl rfl (Nat.le_of_ble_eq_true rfl) rfl (Nat.le_of_ble_eq_true rfl) rfl (Val.indexAddr (i := 0) rfl rfl sl36 sz2 rfl (by first | decide | omega) rfl) ?_
    refine TL.valYes rfl rfl (Nat.le_of_ble_eq_true rfl) rfl (Nat.le_of_ble_eq_true rfl) rfl (Val.load 0 rfl ag2 rfl rfl) ?_
    refine TL.valYes rfl rfl (Nat.le_of_ble_eq_true rfl) rfl (Nat.le_of_ble_eq_true rfl) rfl (Val.same (v' := .bool true) (Val.eqlI rfl rfl) (rfl)) ?_
    refine TL.val rfl rfl (Nat.le_of_ble_eq_true rfl) (Val.pickAnd rfl rfl rfl) ?_
    refine TL.val rfl rfl (Nat.le_of_ble_eq_true rfl) (Val.move rfl) ?_
    refine TL.valYes rfl rfl (Nat.le_of_ble_eq_true rfl) rfl (Nat.le_of_ble_eq_true rfl) rfl (Val.buildS pl26 ze26 rfl rfl) ?_
    refine TL.doesYes (some 130) rfl rfl rfl (Nat.le_of_ble_eq_true rfl) rfl rfl (Does.callF go12 rfl (wNew_nil cfZ _ ⟨by decide, by decide⟩ ⟨by decide, by decide⟩ tg_Z (by decide))) ?_
    rintro _ _ ⟨rfl, rfl⟩
    refine TL.valYes rfl rfl (Nat.le_of_ble_eq_true rfl) rfl (Nat.le_of_ble_eq_true rfl) rfl (Val.same (v' := .bool true) (Val.eqlNil rfl rfl pt28) (rfl)) ?_
    refine TL.val rfl rfl (Nat.le_of_ble_eq_true rfl) (Val.pickAnd rfl rfl rfl) ?_
    refine TL.val rfl rfl (Nat.le_of_ble_eq_true rfl) (Val.move rfl) ?_
    refine TL.valYes rfl rfl (Nat.le_of_ble_eq_true rfl) rfl (Nat.le_of_ble_eq_true rfl) rfl (Val.move rfl) ?_
    refine TL.doesYes (some 135) rfl rfl rfl (Nat.le_of_ble_eq_true rfl) rfl rfl (Does.callF go14 rfl (Corrupt_nil 0 _)) ?_
    rintro _ _ ⟨rfl, rfl⟩
    refine TL.valYes rfl rfl (Nat.le_of_ble_eq_true rfl) rfl (Nat.le_of_ble_eq_true rfl) rfl (Val.same (v' := .bool true) (Val.eqlI rfl rfl) (rfl)) ?_
    refine TL.val rfl rfl (Nat.le_of_ble_eq_true rfl) (Val.pickAnd rfl rfl rfl) ?_
    refine TL.val rfl rfl (Nat.le_of_ble_eq_true rfl) (Val.move rfl) ?_
    refine TL.valYes rfl rfl (Nat.le_of_ble_eq_true rfl) rfl (Nat.le_of_ble_eq_true rfl) rfl (Val.move rfl) ?_
    refine TL.doesYes (some 140) rfl rfl rfl (Nat.le_of_ble_eq_true rfl) rfl rfl (Does.callF go15 rfl (Bad_nil _)) ?_
    rintro _ _ ⟨rfl, rfl⟩
    refine TL.valYes rfl rfl (Nat.le_of_ble_eq_true rfl) rfl (Nat.le_of_ble_eq_true rfl) rfl (Val.lenSl rfl rfl sl22) ?_
    refine TL.valYes rfl rfl (Nat.le_of_ble_eq_true rfl) rfl (Nat.le_of_ble_eq_true rfl) rfl (Val.same (v' := .bool true) (Val.eqlI rfl rfl) (rfl)) ?_
    refine TL.val rfl rfl (Nat.le_of_ble_eq_true rfl) (Val.pickAnd rfl rfl rfl) ?_
    refine TL.val rfl rfl (Nat.le_of_ble_eq_true rfl) (Val.assign rfl) ?_
    refine TL.nil ?_
    refine AtX.then ?_
    refine TC.env (E' := [(0, _)]) (Sub.cons rfl (Sub.nil _)) ?_
    refine TC.ret1 (fn := Try.f13) (fun _ _ h => h) rfl (RV.tmp rfl) (M' := M) (by repeat (first | exact ro_refl | exact ro_pre | refine ro_tail ?_ | refine ro_app ?_)) ?_
    exact ⟨rfl, rfl⟩

end Go.Proofs.Ytphoapajlcaoeaa
/- walks -/
set_option linter.unusedVariables false
set_option linter.unusedSimpArgs false
set_option maxRecDepth 100000
set_option maxHeartbeats 4000000
namespace Go.Proofs.Ytphoapajlcaoeaa
open Go Go.X
/-- quorumite/quorumitelaw3.Fit -/
theorem Fit_fn (zs : List Int) (A : Option Addr) (nn cc : Nat) (M : Hp) (hA : RdS M A (zs.map (Value.int .i64))) (hn : nn = zs.length) : FnC Try.prog 11 #[.slice A nn cc] M (fun v M' => ∃ c : Cf, v = .agg c.cs ∧ OkC c ∧ M = M') := by
  subst hn
  refine FnC.intro Try.func11 rfl 173 rfl (by simp) (fun z => ?_)
  refine TC.env (E' := [(0, _)]) (Sub.cons rfl (Sub.nil _)) ?_
  refine TC.seq ?_
  refine TC.region ?_
  refine TL.does (some 2) rfl rfl rfl (Does.alloc ze26 rfl) ?_
  rintro _ _ ⟨b1, rfl, rfl⟩
  refine TL.nil ?_
  refine AtX.then ?_
  refine TC.seq ?_
  refine TC.region ?_
  refine TL.does (some 7) rfl rfl rfl (Does.callF go43 rfl (refDefault_fn _)) ?_
  rintro _ _ ⟨rfl, rfl⟩
  refine TL.does (some 3) rfl rfl rfl (Does.alloc ze26 rfl) ?_
  rintro _ _ ⟨b3, rfl, rfl⟩
  refine TL.does none rfl rfl rfl (Does.storeR (ys' := [.int .i64 (4), .int .i64 (1), .int .i64 (1), .int .i64 (3), .int .i64 (2), .int .i64 (2), .int .i64 (32), .int .i64 (1000), .int .i64 (0), .int .i64 (0), .int .i64 (0), .int .i64 (100), .int .i64 (1), .int .i64 (100), .int .i64 (0), .int .i64 (3), .int .i64 (4), .int .i64 (100), .int .i64 (4), .int .i64 (50), .int .i64 (2), .int .i64 (100), .int .i64 (3), .int .i64 (4), .int .i64 (256), .int .u64 (1)]) 0 rfl rfl rfl sz26 rfl rfl (by exact Nat.le_of_ble_eq_true rfl) rfl) ?_
  rintro _ _ ⟨rfl, rfl⟩
  refine TL.nil ?_
  refine AtX.then ?_
  refine TC.env (E' := [(0, _), (2, _), (3, _)]) (Sub.cons rfl (Sub.cons rfl (Sub.cons rfl (Sub.nil _)))) ?_
  refine TC.seq ?_
  refine TC.region ?_
  refine TL.does (some 4) rfl rfl rfl (Does.alloc ze83 rfl) ?_
  rintro _ _ ⟨b4, rfl, rfl⟩
  refine TL.nil ?_
  refine AtX.then ?_
  refine TC.env (E' := [(0, _), (2, _), (3, _), (4, _)]) (Sub.cons rfl (Sub.cons rfl (Sub.cons rfl (Sub.cons rfl (Sub.nil _))))) ?_
  refine TC.seq ?_
  refine TC.seq ?_
  refine TC.heap (M' := (b3, .cells #[.int .i64 (4), .int .i64 (1), .int .i64 (1), .int .i64 (3), .int .i64 (2), .int .i64 (2), .int .i64 (32), .int .i64 (1000), .int .i64 (0), .int .i64 (0), .int .i64 (0), .int .i64 (100), .int .i64 (1), .int .i64 (100), .int .i64 (0), .int .i64 (3), .int .i64 (4), .int .i64 (100), .int .i64 (4), .int .i64 (50), .int .i64 (2), .int .i64 (100), .int .i64 (3), .int .i64 (4), .int .i64 (256), .int .u64 (1)] 26 (0, 0)) :: (b4, row 83 ((List.replicate 20 (0 : Int)).map (Value.int .i64))) :: (b1, .cells #[.int .i64 (0), .int .i64 (0), .int .i64 (0), .int .i64 (0), .int .i64 (0), .int .i64 (0), .int .i64 (0), .int .i64 (0), .int .i64 (0), .int .i64 (0), .int .i64 (0), .int .i64 (0), .int .i64 (0), .int .i64 (0), .int .i64 (0), .int .i64 (0), .int .i64 (0), .int .i64 (0), .int .i64 (0), .int .i64 (0), .int .i64 (0), .int .i64 (0), .int .i64 (0), .int .i64 (0), .int .i64 (0), .int .u64 (0)] 26 (0, 0)) :: M) (fun w h => h.perm (List.Perm.swap _ _ _)) ?_
  refine TC.region ?_
  refine TL.val rfl rfl (Nat.le_of_ble_eq_true rfl) (Val.assign rfl) ?_
  refine TL.nil ?_
  refine AtX.then ?_
  refine TC.env (E' := [(0, _), (2, _), (3, _), (4, _), (5, _)]) (Sub.cons rfl (Sub.cons rfl (Sub.cons rfl (Sub.cons rfl (Sub.cons rfl (Sub.nil _)))))) ?_
  refine TC.block ?_
  refine TC.loop (ι := (Nat × List Int)) (fun i => [(0, .slice A zs.length cc), (2, .pointer (some ⟨b1, 0, none⟩)), (3, .pointer (some ⟨b3, 0, none⟩)), (4, .pointer (some ⟨b4, 0, none⟩)), (5, .int .i64 (i.1 : Nat))]) (fun i => (b3, .cells #[.int .i64 (4), .int .i64 (1), .int .i64 (1), .int .i64 (3), .int .i64 (2), .int .i64 (2), .int .i64 (32), .int .i64 (1000), .int .i64 (0), .int .i64 (0), .int .i64 (0), .int .i64 (100), .int .i64 (1), .int .i64 (100), .int .i64 (0), .int .i64 (3), .int .i64 (4), .int .i64 (100), .int .i64 (4), .int .i64 (50), .int .i64 (2), .int .i64 (100), .int .i64 (3), .int .i64 (4), .int .i64 (256), .int .u64 (1)] 26 (0, 0)) :: (b4, row 83 (i.2.map (Value.int .i64))) :: (b1, .cells #[.int .i64 (0), .int .i64 (0), .int .i64 (0), .int .i64 (0), .int .i64 (0), .int .i64 (0), .int .i64 (0), .int .i64 (0), .int .i64 (0), .int .i64 (0), .int .i64 (0), .int .i64 (0), .int .i64 (0), .int .i64 (0), .int .i64 (0), .int .i64 (0), .int .i64 (0), .int .i64 (0), .int .i64 (0), .int .i64 (0), .int .i64 (0), .int .i64 (0), .int .i64 (0), .int .i64 (0), .int .i64 (0), .int .u64 (0)] 26 (0, 0)) :: M) (fun i => i.1 ≤ 20 ∧ i.2.length = 20 ∧ ∀ x ∈ i.2, 0 ≤ x ∧ x < 100000) (fun i => 20 - i.1) (0, List.replicate 20 0) ?_ (Sub.cons rfl (Sub.cons rfl (Sub.cons rfl (Sub.cons rfl (Sub.cons rfl (Sub.nil _)))))) (fun _ h => h) ?_
  · exact ⟨by omega, by simp, fun x hx => by have := List.eq_of_mem_replicate hx; omega⟩
  rintro ⟨i, q⟩ ⟨hi, hq, hb⟩
  dsimp only at hi hq hb ⊢
  refine TC.seq ?_
  refine TC.seq ?_
  refine TC.region ?_
  refine TL.val rfl rfl (Nat.le_of_ble_eq_true rfl) (Val.move rfl) ?_
  refine TL.val rfl rfl (Nat.le_of_ble_eq_true rfl) (Val.move rfl) ?_
  refine TL.val rfl rfl (Nat.le_of_ble_eq_true rfl) (Val.lenSl rfl rfl sl22) ?_
  refine TL.val rfl rfl (Nat.le_of_ble_eq_true rfl) (Val.lss rfl rfl) ?_
  refine TL.val rfl rfl (Nat.le_of_ble_eq_true rfl) (Val.move rfl) ?_
  refine TL.gen (fun g5 hg5 => ?_)
  refine TL.gval rfl rfl (Nat.le_of_ble_eq_true rfl) rfl (Nat.le_of_ble_eq_true rfl) rfl (fun hg => by subst hg; exact (Val.move rfl)) ?_
  refine TL.gval rfl rfl (Nat.le_of_ble_eq_true rfl) rfl (Nat.le_of_ble_eq_true rfl) rfl (fun hg => by subst hg; exact (Val.lss rfl rfl)) ?_
  refine TL.val rfl rfl (Nat.le_of_ble_eq_true rfl) (Val.pickAnd rfl rfl rfl) ?_
  refine TL.nil ?_
  refine AtX.then ?_
  first | refine TC.condP rfl (fun c1 => ?_) (fun c1 => ?_) | refine TC.condN rfl (fun c1 => ?_) (fun c1 => ?_) | refine TC.condB rfl (fun c1 => ?_) (fun c1 => ?_) | refine TC.cond rfl (fun c1 => ?_) (fun c1 => ?_)
  · skip
    refine TC.skip ?_
    refine AtX.then ?_
    refine TC.seq ?_
    refine TC.block ?_
    have hlt : i < zs.length ∧ i < 20 := by grind
    obtain ⟨x, hx⟩ : ∃ x, zs[i]? = some x := ⟨_, List.getElem?_eq_getElem hlt.1⟩
    obtain ⟨bA, oA, rfl, hR⟩ := RdS.get hA (by simp; omega)
    obtain ⟨r, hr, gr, lr⟩ := rem_ex (m := IntKind.u64.wrap x) (d := 100000) (by rw [w_u64m]; omega) (by decide)
    refine TC.region ?_
    refine TL.val rfl rfl (Nat.le_of_ble_eq_true rfl) (Val.move rfl) ?_
    refine TL.val rfl rfl (Nat.le_of_ble_eq_true rfl) (Val.move rfl) ?_
    refine TL.val rfl rfl (Nat.le_of_ble_eq_true rfl) (Val.move rfl) ?_
    refine TL.val rfl rfl (Nat.le_of_ble_eq_true rfl) (Val.indexAddr (i := i) (r := oA + i) rfl rfl sl22 sz3 rfl hlt.1 (by omega)) ?_
    refine TL.val rfl rfl (Nat.le_of_ble_eq_true rfl) (Val.loadRd (o := oA) (j := i) rfl ag3 (((hR.cons _).cons _).cons _) rfl (map_get hx)) ?_
    refine TL.val rfl rfl (Nat.le_of_ble_eq_true rfl) (Val.convI rfl iu3 in32 rfl) ?_
    refine TL.val rfl rfl (Nat.le_of_ble_eq_true rfl) (Val.rem rfl rfl (by decide) (r := r) hr) ?_
    refine TL.val rfl rfl (Nat.le_of_ble_eq_true rfl) (Val.convI rfl iu32 in3 (w_i64 (by omega) (by omega))) ?_
    refine TL.val rfl rfl (Nat.le_of_ble_eq_true rfl) (Val.indexAddrA (i := i) (r := i) rfl rfl ar83 sz3 rfl hlt.2 (by omega)) ?_
    refine TL.does none rfl rfl rfl (Does.storeR 1 rfl rfl rfl sz3 rfl rfl (by simp; omega) (map_set1 (f := Value.int .i64) (by omega) r)) ?_
    rintro _ _ ⟨rfl, rfl⟩
    refine TL.nil ?_
    refine AtX.blk ?_
    refine AtX.then ?_
    refine TC.region ?_
    refine TL.val rfl rfl (Nat.le_of_ble_eq_true rfl) (Val.move rfl) ?_
    refine TL.val rfl rfl (Nat.le_of_ble_eq_true rfl) (Val.add rfl rfl (w_i64 (by omega) (by omega))) ?_
    refine TL.val rfl rfl (Nat.le_of_ble_eq_true rfl) (Val.assign rfl) ?_
    refine TL.nil ?_
    refine AtX.round (i := (i, q)) (i + 1, q.set i r) ?_ ?_ (Sub.cons rfl (Sub.cons rfl (Sub.cons rfl (Sub.cons rfl (Sub.cons rfl (Sub.nil _)))))) (fun _ h => h)
    · exact ⟨by omega, by simpa using hq, set_bd hb ⟨gr, lr⟩⟩
    · show 20 - (i + 1) < 20 - i; omega
  · skip
    refine TC.exit ?_
    refine AtX.seqX ?_
    refine AtX.seqX ?_
    refine AtX.hit ?_
    refine AtX.then ?_
    refine TC.env (E' := [(0, _), (2, _), (3, _), (4, _)]) (Sub.cons rfl (Sub.cons rfl (Sub.cons rfl (Sub.cons rfl (Sub.nil _))))) ?_
    refine TC.seq ?_
    refine TC.seq ?_
    refine TC.region ?_
    refine TL.val rfl rfl (Nat.le_of_ble_eq_true rfl) (Val.move rfl) ?_
    refine TL.val rfl rfl (Nat.le_of_ble_eq_true rfl) (Val.lenSl rfl rfl sl22) ?_
    refine TL.val rfl rfl (Nat.le_of_ble_eq_true rfl) (Val.eqlI rfl rfl) ?_
    refine TL.nil ?_
    refine AtX.then ?_
    refine TC.env (E' := [(2, _), (3, _), (4, _), (29, _)]) (Sub.cons rfl (Sub.cons rfl (Sub.cons rfl (Sub.cons rfl (Sub.nil _))))) ?_
    first | refine TC.condP rfl (fun c2 => ?_) (fun c2 => ?_) | refine TC.condN rfl (fun c2 => ?_) (fun c2 => ?_) | refine TC.condB rfl (fun c2 => ?_) (fun c2 => ?_) | refine TC.cond rfl (fun c2 => ?_) (fun c2 => ?_)
    · skip
      refine TC.env (E' := [(2, _), (3, _), (4, _)]) (Sub.cons rfl (Sub.cons rfl (Sub.cons rfl (Sub.nil _)))) ?_
      refine TC.seq ?_
      refine TC.region ?_
      refine TL.val rfl rfl (Nat.le_of_ble_eq_true rfl) (Val.loadAgg (vs := [.int .i64 (4), .int .i64 (1), .int .i64 (1), .int .i64 (3), .int .i64 (2), .int .i64 (2), .int .i64 (32), .int .i64 (1000), .int .i64 (0), .int .i64 (0), .int .i64 (0), .int .i64 (100), .int .i64 (1), .int .i64 (100), .int .i64 (0), .int .i64 (3), .int .i64 (4), .int .i64 (100), .int .i64 (4), .int .i64 (50), .int .i64 (2), .int .i64 (100), .int .i64 (3), .int .i64 (4), .int .i64 (256), .int .u64 (1)]) 0 rfl ag26 sz26 rfl rfl rfl) ?_
      refine TL.does none rfl rfl rfl (Does.storeR (ys' := [.int .i64 (4), .int .i64 (1), .int .i64 (1), .int .i64 (3), .int .i64 (2), .int .i64 (2), .int .i64 (32), .int .i64 (1000), .int .i64 (0), .int .i64 (0), .int .i64 (0), .int .i64 (100), .int .i64 (1), .int .i64 (100), .int .i64 (0), .int .i64 (3), .int .i64 (4), .int .i64 (100), .int .i64 (4), .int .i64 (50), .int .i64 (2), .int .i64 (100), .int .i64 (3), .int .i64 (4), .int .i64 (256), .int .u64 (1)]) 2 rfl rfl rfl sz26 rfl rfl (by exact Nat.le_of_ble_eq_true rfl) rfl) ?_
      rintro _ _ ⟨rfl, rfl⟩
      refine TL.nil ?_
      refine AtX.then ?_
      refine TC.env (E' := [(2, _), (3, _), (4, _)]) (Sub.cons rfl (Sub.cons rfl (Sub.cons rfl (Sub.nil _)))) ?_
      refine TC.ret1 (fn := Try.f11) (fun _ _ h => h) rfl (RV.agg (i := 2) rfl ag26 sz26 rfl rfl rfl) (M' := M) (by repeat (first | exact ro_refl | exact ro_pre | refine ro_tail ?_ | refine ro_app ?_)) ?_
      exact ⟨cfD, rfl, okD, rfl⟩
    · skip
      refine TC.env (E' := [(2, _), (3, _), (4, _)]) (Sub.cons rfl (Sub.cons rfl (Sub.cons rfl (Sub.nil _)))) ?_
      refine TC.skip ?_
      refine AtX.then ?_
      refine TC.env (E' := [(2, _), (3, _), (4, _)]) (Sub.cons rfl (Sub.cons rfl (Sub.cons rfl (Sub.nil _)))) ?_
      refine TC.seq ?_
      obtain ⟨q0, q1, q2, q3, q4, q5, q6, q7, q8, q9, q10, q11, q12, q13, q14, q15, q16, q17, q18, q19, rfl⟩ := list20 hq
      simp only [List.mem_cons, List.not_mem_nil, or_false, forall_eq_or_imp, forall_eq] at hb
      obtain ⟨hq0, hq1, hq2, hq3, hq4, hq5, hq6, hq7, hq8, hq9, hq10, hq11, hq12, hq13, hq14, hq15, hq16, hq17, hq18, hq19⟩ := hb
      obtain ⟨a0, ha0, ga0, la0⟩ := rem_ex (m := q0) (d := 3) (by omega) (by decide)
      obtain ⟨a1, ha1, ga1, la1⟩ := rem_ex (m := q1) (d := 4) (by omega) (by decide)
      obtain ⟨a2, ha2, ga2, la2⟩ := rem_ex (m := q2) (d := 2) (by omega) (by decide)
      obtain ⟨a4, ha4, ga4, la4⟩ := rem_ex (m := q4) (d := 3) (by omega) (by decide)
      obtain ⟨a5, ha5, ga5, la5⟩ := rem_ex (m := q5) (d := 3) (by omega) (by decide)
      obtain ⟨a6, ha6, ga6, la6⟩ := rem_ex (m := q6) (d := 64) (by omega) (by decide)
      obtain ⟨a7, ha7, ga7, la7⟩ := rem_ex (m := q7) (d := 2000) (by omega) (by decide)
      obtain ⟨a8, ha8, ga8, la8⟩ := rem_ex (m := q8) (d := 2000) (by omega) (by decide)
      obtain ⟨a9, ha9, ga9, la9⟩ := rem_ex (m := q9) (d := 300) (by omega) (by decide)
      obtain ⟨a10, ha10, ga10, la10⟩ := rem_ex (m := q10) (d := 5) (by omega) (by decide)
      obtain ⟨a11, ha11, ga11, la11⟩ := rem_ex (m := q11) (d := 4) (by omega) (by decide)
      obtain ⟨a12, ha12, ga12, la12⟩ := rem_ex (m := q12) (d := 5) (by omega) (by decide)
      obtain ⟨a13, ha13, ga13, la13⟩ := rem_ex (m := q13) (d := 5) (by omega) (by decide)
      obtain ⟨a14, ha14, ga14, la14⟩ := rem_ex (m := q14) (d := 5) (by omega) (by decide)
      obtain ⟨a15, ha15, ga15, la15⟩ := rem_ex (m := q15) (d := 4) (by omega) (by decide)
      obtain ⟨a16, ha16, ga16, la16⟩ := rem_ex (m := q16) (d := 500) (by omega) (by decide)
      obtain ⟨a17, ha17, ga17, la17⟩ := rem_ex (m := q17) (d := 3) (by omega) (by decide)
      obtain ⟨a18, ha18, ga18, la18⟩ := rem_ex (m := q18) (d := 300) (by omega) (by decide)
      obtain ⟨b10, hb10, gb10, lb10⟩ := quo_ex (m := q10) (d := 5) (by omega) (by decide)
      obtain ⟨b13, hb13, gb13, lb13⟩ := quo_ex (m := q13) (d := 5) (by omega) (by decide)
      obtain ⟨b14, hb14, gb14, lb14⟩ := quo_ex (m := q14) (d := 5) (by omega) (by decide)
      obtain ⟨b17, hb17, gb17, lb17⟩ := quo_ex (m := q17) (d := 3) (by omega) (by decide)
      obtain ⟨c10, hc10, gc10, lc10⟩ := rem_ex (m := b10) (d := 60) (by omega) (by decide)
      obtain ⟨c13, hc13, gc13, lc13⟩ := rem_ex (m := b13) (d := 150) (by omega) (by decide)
      obtain ⟨c14, hc14, gc14, lc14⟩ := rem_ex (m := b14) (d := 100) (by omega) (by decide)
      obtain ⟨c17, hc17, gc17, lc17⟩ := rem_ex (m := b17) (d := 4) (by omega) (by decide)
      obtain ⟨a3, ha3, ga3, la3⟩ := rem_ex (m := q3) (d := 3 * a0 + 1 + a1 - 2 * a0) (by omega) (by omega)
      refine TC.heap (M' := (b3, .cells #[.int .i64 (4), .int .i64 (1), .int .i64 (1), .int .i64 (3), .int .i64 (2), .int .i64 (2), .int .i64 (32), .int .i64 (1000), .int .i64 (0), .int .i64 (0), .int .i64 (0), .int .i64 (100), .int .i64 (1), .int .i64 (100), .int .i64 (0), .int .i64 (3), .int .i64 (4), .int .i64 (100), .int .i64 (4), .int .i64 (50), .int .i64 (2), .int .i64 (100), .int .i64 (3), .int .i64 (4), .int .i64 (256), .int .u64 (1)] 26 (0, 0)) :: (b4, .cells #[.int .i64 q0, .int .i64 q1, .int .i64 q2, .int .i64 q3, .int .i64 q4, .int .i64 q5, .int .i64 q6, .int .i64 q7, .int .i64 q8, .int .i64 q9, .int .i64 q10, .int .i64 q11, .int .i64 q12, .int .i64 q13, .int .i64 q14, .int .i64 q15, .int .i64 q16, .int .i64 q17, .int .i64 q18, .int .i64 q19] 83 (0, 0)) :: (b1, .cells #[.int .i64 (0), .int .i64 (0), .int .i64 (0), .int .i64 (0), .int .i64 (0), .int .i64 (0), .int .i64 (0), .int .i64 (0), .int .i64 (0), .int .i64 (0), .int .i64 (0), .int .i64 (0), .int .i64 (0), .int .i64 (0), .int .i64 (0), .int .i64 (0), .int .i64 (0), .int .i64 (0), .int .i64 (0), .int .i64 (0), .int .i64 (0), .int .i64 (0), .int .i64 (0), .int .i64 (0), .int .i64 (0), .int .u64 (0)] 26 (0, 0)) :: M) (fun w h => h) ?_
      refine TC.region ?_
      refine TL.val rfl rfl (Nat.le_of_ble_eq_true rfl) (Val.indexAddrA (i := 0) rfl rfl ar83 sz3 rfl (by first | decide | omega) rfl) ?_
      refine TL.val rfl rfl (Nat.le_of_ble_eq_true rfl) (Val.load 1 rfl ag3 rfl rfl) ?_
      refine TL.val rfl rfl (Nat.le_of_ble_eq_true rfl) (Val.rem rfl rfl (by first | decide | omega) (r := a0) ha0) ?_
      refine TL.val rfl rfl (Nat.le_of_ble_eq_true rfl) (Val.fieldAddr rfl fl26_1 sz3 rfl) ?_
      refine TL.does none rfl rfl rfl (Does.store (i := 0) rfl rfl rfl sz3 rfl rfl (by first | exact Nat.le_of_ble_eq_true rfl | decide | omega) rfl rfl) ?_
      rintro _ _ ⟨rfl, rfl⟩
      refine TL.nil ?_
      refine AtX.then ?_
      refine TC.env (E' := [(2, _), (3, _), (4, _)]) (Sub.cons rfl (Sub.cons rfl (Sub.cons rfl (Sub.nil _)))) ?_
      refine TC.seq ?_
      refine TC.heap (M' := (b3, .cells #[.int .i64 (4), .int .i64 (a0), .int .i64 (1), .int .i64 (3), .int .i64 (2), .int .i64 (2), .int .i64 (32), .int .i64 (1000), .int .i64 (0), .int .i64 (0), .int .i64 (0), .int .i64 (100), .int .i64 (1), .int .i64 (100), .int .i64 (0), .int .i64 (3), .int .i64 (4), .int .i64 (100), .int .i64 (4), .int .i64 (50), .int .i64 (2), .int .i64 (100), .int .i64 (3), .int .i64 (4), .int .i64 (256), .int .u64 (1)] 26 (0, 0)) :: (b4, .cells #[.int .i64 q0, .int .i64 q1, .int .i64 q2, .int .i64 q3, .int .i64 q4, .int .i64 q5, .int .i64 q6, .int .i64 q7, .int .i64 q8, .int .i64 q9, .int .i64 q10, .int .i64 q11, .int .i64 q12, .int .i64 q13, .int .i64 q14, .int .i64 q15, .int .i64 q16, .int .i64 q17, .int .i64 q18, .int .i64 q19] 83 (0, 0)) :: (b1, .cells #[.int .i64 (0), .int .i64 (0), .int .i64 (0), .int .i64 (0), .int .i64 (0), .int .i64 (0), .int .i64 (0), .int .i64 (0), .int .i64 (0), .int .i64 (0), .int .i64 (0), .int .i64 (0), .int .i64 (0), .int .i64 (0), .int .i64 (0), .int .i64 (0), .int .i64 (0), .int .i64 (0), .int .i64 (0), .int .i64 (0), .int .i64 (0), .int .i64 (0), .int .i64 (0), .int .i64 (0), .int .i64 (0), .int .u64 (0)] 26 (0, 0)) :: M) (fun w h => h) ?_
      refine TC.region ?_
      refine TL.val rfl rfl (Nat.le_of_ble_eq_true rfl) (Val.fieldAddr rfl fl26_1 sz3 rfl) ?_
      refine TL.val rfl rfl (Nat.le_of_ble_eq_true rfl) (Val.load 0 rfl ag3 rfl rfl) ?_
      refine TL.val rfl rfl (Nat.le_of_ble_eq_true rfl) (Val.mul rfl rfl (w_i64 (by omega) (by omega))) ?_
      refine TL.val rfl rfl (Nat.le_of_ble_eq_true rfl) (Val.add rfl rfl (w_i64 (by omega) (by omega))) ?_
      refine TL.val rfl rfl (Nat.le_of_ble_eq_true rfl) (Val.indexAddrA (i := 1) rfl rfl ar83 sz3 rfl (by first | decide | omega) rfl) ?_
      refine TL.val rfl rfl (Nat.le_of_ble_eq_true rfl) (Val.load 1 rfl ag3 rfl rfl) ?_
      refine TL.val rfl rfl (Nat.le_of_ble_eq_true rfl) (Val.rem rfl rfl (by first | decide | omega) (r := a1) ha1) ?_
      refine TL.val rfl rfl (Nat.le_of_ble_eq_true rfl) (Val.add rfl rfl (w_i64 (by omega) (by omega))) ?_
      refine TL.val rfl rfl (Nat.le_of_ble_eq_true rfl) (Val.fieldAddr rfl fl26_0 sz3 rfl) ?_
      refine TL.does none rfl rfl rfl (Does.store (i := 0) rfl rfl rfl sz3 rfl rfl (by first | exact Nat.le_of_ble_eq_true rfl | decide | omega) rfl rfl) ?_
      rintro _ _ ⟨rfl, rfl⟩
      refine TL.nil ?_
      refine AtX.then ?_
      refine TC.env (E' := [(2, _), (3, _), (4, _)]) (Sub.cons rfl (Sub.cons rfl (Sub.cons rfl (Sub.nil _)))) ?_
      refine TC.seq ?_
      refine TC.heap (M' := (b3, .cells #[.int .i64 (3 * a0 + 1 + a1), .int .i64 (a0), .int .i64 (1), .int .i64 (3), .int .i64 (2), .int .i64 (2), .int .i64 (32), .int .i64 (1000), .int .i64 (0), .int .i64 (0), .int .i64 (0), .int .i64 (100), .int .i64 (1), .int .i64 (100), .int .i64 (0), .int .i64 (3), .int .i64 (4), .int .i64 (100), .int .i64 (4), .int .i64 (50), .int .i64 (2), .int .i64 (100), .int .i64 (3), .int .i64 (4), .int .i64 (256), .int .u64 (1)] 26 (0, 0)) :: (b4, .cells #[.int .i64 q0, .int .i64 q1, .int .i64 q2, .int .i64 q3, .int .i64 q4, .int .i64 q5, .int .i64 q6, .int .i64 q7, .int .i64 q8, .int .i64 q9, .int .i64 q10, .int .i64 q11, .int .i64 q12, .int .i64 q13, .int .i64 q14, .int .i64 q15, .int .i64 q16, .int .i64 q17, .int .i64 q18, .int .i64 q19] 83 (0, 0)) :: (b1, .cells #[.int .i64 (0), .int .i64 (0), .int .i64 (0), .int .i64 (0), .int .i64 (0), .int .i64 (0), .int .i64 (0), .int .i64 (0), .int .i64 (0), .int .i64 (0), .int .i64 (0), .int .i64 (0), .int .i64 (0), .int .i64 (0), .int .i64 (0), .int .i64 (0), .int .i64 (0), .int .i64 (0), .int .i64 (0), .int .i64 (0), .int .i64 (0), .int .i64 (0), .int .i64 (0), .int .i64 (0), .int .i64 (0), .int .u64 (0)] 26 (0, 0)) :: M) (fun w h => h) ?_
      refine TC.region ?_
      refine TL.val rfl rfl (Nat.le_of_ble_eq_true rfl) (Val.indexAddrA (i := 2) rfl rfl ar83 sz3 rfl (by first | decide | omega) rfl) ?_
      refine TL.val rfl rfl (Nat.le_of_ble_eq_true rfl) (Val.load 1 rfl ag3 rfl rfl) ?_
      refine TL.val rfl rfl (Nat.le_of_ble_eq_true rfl) (Val.rem rfl rfl (by first | decide | omega) (r := a2) ha2) ?_
      refine TL.val rfl rfl (Nat.le_of_ble_eq_true rfl) (Val.add rfl rfl (w_i64 (by omega) (by omega))) ?_
      refine TL.val rfl rfl (Nat.le_of_ble_eq_true rfl) (Val.fieldAddr rfl fl26_2 sz3 rfl) ?_
      refine TL.does none rfl rfl rfl (Does.store (i := 0) rfl rfl rfl sz3 rfl rfl (by first | exact Nat.le_of_ble_eq_true rfl | decide | omega) rfl rfl) ?_
      rintro _ _ ⟨rfl, rfl⟩
      refine TL.nil ?_
      refine AtX.then ?_
      refine TC.env (E' := [(2, _), (3, _), (4, _)]) (Sub.cons rfl (Sub.cons rfl (Sub.cons rfl (Sub.nil _)))) ?_
      refine TC.seq ?_
      refine TC.heap (M' := (b3, .cells #[.int .i64 (3 * a0 + 1 + a1), .int .i64 (a0), .int .i64 (1 + a2), .int .i64 (3), .int .i64 (2), .int .i64 (2), .int .i64 (32), .int .i64 (1000), .int .i64 (0), .int .i64 (0), .int .i64 (0), .int .i64 (100), .int .i64 (1), .int .i64 (100), .int .i64 (0), .int .i64 (3), .int .i64 (4), .int .i64 (100), .int .i64 (4), .int .i64 (50), .int .i64 (2), .int .i64 (100), .int .i64 (3), .int .i64 (4), .int .i64 (256), .int .u64 (1)] 26 (0, 0)) :: (b4, .cells #[.int .i64 q0, .int .i64 q1, .int .i64 q2, .int .i64 q3, .int .i64 q4, .int .i64 q5, .int .i64 q6, .int .i64 q7, .int .i64 q8, .int .i64 q9, .int .i64 q10, .int .i64 q11, .int .i64 q12, .int .i64 q13, .int .i64 q14, .int .i64 q15, .int .i64 q16, .int .i64 q17, .int .i64 q18, .int .i64 q19] 83 (0, 0)) :: (b1, .cells #[.int .i64 (0), .int .i64 (0), .int .i64 (0), .int .i64 (0), .int .i64 (0), .int .i64 (0), .int .i64 (0), .int .i64 (0), .int .i64 (0), .int .i64 (0), .int .i64 (0), .int .i64 (0), .int .i64 (0), .int .i64 (0), .int .i64 (0), .int .i64 (0), .int .i64 (0), .int .i64 (0), .int .i64 (0), .int .i64 (0), .int .i64 (0), .int .i64 (0), .int .i64 (0), .int .i64 (0), .int .i64 (0), .int .u64 (0)] 26 (0, 0)) :: M) (fun w h => h) ?_
      refine TC.drawG [15] ((b4, .cells #[.int .i64 q0, .int .i64 q1, .int .i64 q2, .int .i64 q3, .int .i64 q4, .int .i64 q5, .int .i64 q6, .int .i64 q7, .int .i64 q8, .int .i64 q9, .int .i64 q10, .int .i64 q11, .int .i64 q12, .int .i64 q13, .int .i64 q14, .int .i64 q15, .int .i64 q16, .int .i64 q17, .int .i64 q18, .int .i64 q19] 83 (0, 0)) :: (b1, .cells #[.int .i64 (0), .int .i64 (0), .int .i64 (0), .int .i64 (0), .int .i64 (0), .int .i64 (0), .int .i64 (0), .int .i64 (0), .int .i64 (0), .int .i64 (0), .int .i64 (0), .int .i64 (0), .int .i64 (0), .int .i64 (0), .int .i64 (0), .int .i64 (0), .int .i64 (0), .int .i64 (0), .int .i64 (0), .int .i64 (0), .int .i64 (0), .int .i64 (0), .int .i64 (0), .int .i64 (0), .int .i64 (0), .int .u64 (0)] 26 (0, 0)) :: M) mixed 16 ?_
      refine TG.tk false 0 1 rfl rfl rfl (Val.fieldAddr rfl fl26_1 sz3 rfl) ?_
      refine TG.tk false 1 3 rfl rfl rfl (Val.load 0 rfl ag3 rfl rfl) ?_
      refine TG.tk false 2 7 rfl rfl rfl (Val.mul rfl rfl (w_i64 (by omega) (by omega))) ?_
      refine TG.tk false 3 15 rfl rfl rfl (Val.add rfl rfl (w_i64 (by omega) (by omega))) ?_
      refine TG.tk false 4 31 rfl rfl rfl (Val.indexAddrA (i := 3) rfl rfl ar83 sz3 rfl (by first | decide | omega) rfl) ?_
      refine TG.tk false 5 63 rfl rfl rfl (Val.load 1 rfl ag3 rfl rfl) ?_
      refine TG.tk false 6 127 rfl rfl rfl (Val.fieldAddr rfl fl26_0 sz3 rfl) ?_
      refine TG.tk false 7 255 rfl rfl rfl (Val.load 0 rfl ag3 rfl rfl) ?_
      refine TG.tk false 8 511 rfl rfl rfl (Val.fieldAddr rfl fl26_1 sz3 rfl) ?_
      refine TG.tk false 9 1023 rfl rfl rfl (Val.load 0 rfl ag3 rfl rfl) ?_
      refine TG.tk false 10 2047 rfl rfl rfl (Val.mul rfl rfl (w_i64 (by omega) (by omega))) ?_
      refine TG.tk false 11 4095 rfl rfl rfl (Val.sub rfl rfl (w_i64 (by omega) (by omega))) ?_
      refine TG.tk false 12 8191 rfl rfl rfl (Val.rem rfl rfl (by first | decide | omega) (r := a3) ha3) ?_
      refine TG.tk false 13 16383 rfl rfl rfl (Val.add rfl rfl (w_i64 (by omega) (by omega))) ?_
      refine TG.tk false 14 32767 rfl rfl rfl (Val.fieldAddr rfl fl26_3 sz3 rfl) ?_
      refine TG.one 15 (by kernel_rfl) ?_
      refine TP.dz true 65535 none rfl rfl rfl rfl (Does.store (i := 0) rfl rfl rfl sz3 rfl rfl (by first | exact Nat.le_of_ble_eq_true rfl | decide | omega) rfl rfl) ?_
      rintro _ _ ⟨rfl, rfl⟩
      refine roK ?_
      refine TG.done (by kernel_rfl) ?_ _
      refine AtX.then ?_
      refine TC.env (E' := [(2, _), (3, _), (4, _)]) (Sub.cons rfl (Sub.cons rfl (Sub.cons rfl (Sub.nil _)))) ?_
      refine TC.seq ?_
      refine TC.heap (M' := (b3, .cells #[.int .i64 (3 * a0 + 1 + a1), .int .i64 (a0), .int .i64 (1 + a2), .int .i64 (2 * a0 + 1 + a3), .int .i64 (2), .int .i64 (2), .int .i64 (32), .int .i64 (1000), .int .i64 (0), .int .i64 (0), .int .i64 (0), .int .i64 (100), .int .i64 (1), .int .i64 (100), .int .i64 (0), .int .i64 (3), .int .i64 (4), .int .i64 (100), .int .i64 (4), .int .i64 (50), .int .i64 (2), .int .i64 (100), .int .i64 (3), .int .i64 (4), .int .i64 (256), .int .u64 (1)] 26 (0, 0)) :: (b4, .cells #[.int .i64 q0, .int .i64 q1, .int .i64 q2, .int .i64 q3, .int .i64 q4, .int .i64 q5, .int .i64 q6, .int .i64 q7, .int .i64 q8, .int .i64 q9, .int .i64 q10, .int .i64 q11, .int .i64 q12, .int .i64 q13, .int .i64 q14, .int .i64 q15, .int .i64 q16, .int .i64 q17, .int .i64 q18, .int .i64 q19] 83 (0, 0)) :: (b1, .cells #[.int .i64 (0), .int .i64 (0), .int .i64 (0), .int .i64 (0), .int .i64 (0), .int .i64 (0), .int .i64 (0), .int .i64 (0), .int .i64 (0), .int .i64 (0), .int .i64 (0), .int .i64 (0), .int .i64 (0), .int .i64 (0), .int .i64 (0), .int .i64 (0), .int .i64 (0), .int .i64 (0), .int .i64 (0), .int .i64 (0), .int .i64 (0), .int .i64 (0), .int .i64 (0), .int .i64 (0), .int .i64 (0), .int .u64 (0)] 26 (0, 0)) :: M) (fun w h => h) ?_
      refine TC.drawL ((b4, .cells #[.int .i64 q0, .int .i64 q1, .int .i64 q2, .int .i64 q3, .int .i64 q4, .int .i64 q5, .int .i64 q6, .int .i64 q7, .int .i64 q8, .int .i64 q9, .int .i64 q10, .int .i64 q11, .int .i64 q12, .int .i64 q13, .int .i64 q14, .int .i64 q15, .int .i64 q16, .int .i64 q17, .int .i64 q18, .int .i64 q19] 83 (0, 0)) :: (b1, .cells #[.int .i64 (0), .int .i64 (0), .int .i64 (0), .int .i64 (0), .int .i64 (0), .int .i64 (0), .int .i64 (0), .int .i64 (0), .int .i64 (0), .int .i64 (0), .int .i64 (0), .int .i64 (0), .int .i64 (0), .int .i64 (0), .int .i64 (0), .int .i64 (0), .int .i64 (0), .int .i64 (0), .int .i64 (0), .int .i64 (0), .int .i64 (0), .int .i64 (0), .int .i64 (0), .int .i64 (0), .int .i64 (0), .int .u64 (0)] 26 (0, 0)) :: M) mixed 18 ?_
      refine TA.tk 0 1 rfl rfl rfl (Val.indexAddrA (i := 4) rfl rfl ar83 sz3 rfl (by first | decide | omega) rfl) ?_
      refine TA.tk 1 3 rfl rfl rfl (Val.load 0 rfl ag3 rfl rfl) ?_
      refine TA.tk 2 7 rfl rfl rfl (Val.rem rfl rfl (by first | decide | omega) (r := a4) ha4) ?_
      refine TA.tk 3 15 rfl rfl rfl (Val.add rfl rfl (w_i64 (by omega) (by omega))) ?_
      refine TA.tk 4 31 rfl rfl rfl (Val.indexAddrA (i := 5) rfl rfl ar83 sz3 rfl (by first | decide | omega) rfl) ?_
      refine TA.tk 5 63 rfl rfl rfl (Val.load 0 rfl ag3 rfl rfl) ?_
      refine TA.tk 6 127 rfl rfl rfl (Val.rem rfl rfl (by first | decide | omega) (r := a5) ha5) ?_
      refine TA.tk 7 255 rfl rfl rfl (Val.add rfl rfl (w_i64 (by omega) (by omega))) ?_
      refine TA.tk 8 511 rfl rfl rfl (Val.indexAddrA (i := 6) rfl rfl ar83 sz3 rfl (by first | decide | omega) rfl) ?_
      refine TA.tk 9 1023 rfl rfl rfl (Val.load 0 rfl ag3 rfl rfl) ?_
      refine TA.tk 10 2047 rfl rfl rfl (Val.rem rfl rfl (by first | decide | omega) (r := a6) ha6) ?_
      refine TA.tk 11 4095 rfl rfl rfl (Val.add rfl rfl (w_i64 (by omega) (by omega))) ?_
      refine TA.tk 12 8191 rfl rfl rfl (Val.fieldAddr rfl fl26_4 sz3 rfl) ?_
      refine TA.one 13 (by kernel_rfl) ?_
      refine TO.dz 16383 none rfl rfl rfl rfl (Does.store (i := 0) rfl rfl rfl sz3 rfl rfl (by first | exact Nat.le_of_ble_eq_true rfl | decide | omega) rfl rfl) ?_
      rintro _ _ ⟨rfl, rfl⟩
      refine roK ?_
      refine TA.tk 14 32767 rfl rfl rfl (Val.fieldAddr rfl fl26_5 sz3 rfl) ?_
      refine TA.one 15 (by kernel_rfl) ?_
      refine TO.dz 65535 none rfl rfl rfl rfl (Does.store (i := 0) rfl rfl rfl sz3 rfl rfl (by first | exact Nat.le_of_ble_eq_true rfl | decide | omega) rfl rfl) ?_
      rintro _ _ ⟨rfl, rfl⟩
      refine roK ?_
      refine TA.tk 16 131071 rfl rfl rfl (Val.fieldAddr rfl fl26_6 sz3 rfl) ?_
      refine TA.one 17 (by kernel_rfl) ?_
      refine TO.dz 262143 none rfl rfl rfl rfl (Does.store (i := 0) rfl rfl rfl sz3 rfl rfl (by first | exact Nat.le_of_ble_eq_true rfl | decide | omega) rfl rfl) ?_
      rintro _ _ ⟨rfl, rfl⟩
      refine roK ?_
      refine TA.done (by kernel_rfl) ?_
      refine AtX.then ?_
      refine TC.env (E' := [(2, _), (3, _), (4, _)]) (Sub.cons rfl (Sub.cons rfl (Sub.cons rfl (Sub.nil _)))) ?_
      refine TC.seq ?_
      refine TC.heap (M' := (b3, .cells #[.int .i64 (3 * a0 + 1 + a1), .int .i64 (a0), .int .i64 (1 + a2), .int .i64 (2 * a0 + 1 + a3), .int .i64 (1 + a4), .int .i64 (1 + a5), .int .i64 (1 + a6), .int .i64 (1000), .int .i64 (0), .int .i64 (0), .int .i64 (0), .int .i64 (100), .int .i64 (1), .int .i64 (100), .int .i64 (0), .int .i64 (3), .int .i64 (4), .int .i64 (100), .int .i64 (4), .int .i64 (50), .int .i64 (2), .int .i64 (100), .int .i64 (3), .int .i64 (4), .int .i64 (256), .int .u64 (1)] 26 (0, 0)) :: (b4, .cells #[.int .i64 q0, .int .i64 q1, .int .i64 q2, .int .i64 q3, .int .i64 q4, .int .i64 q5, .int .i64 q6, .int .i64 q7, .int .i64 q8, .int .i64 q9, .int .i64 q10, .int .i64 q11, .int .i64 q12, .int .i64 q13, .int .i64 q14, .int .i64 q15, .int .i64 q16, .int .i64 q17, .int .i64 q18, .int .i64 q19] 83 (0, 0)) :: (b1, .cells #[.int .i64 (0), .int .i64 (0), .int .i64 (0), .int .i64 (0), .int .i64 (0), .int .i64 (0), .int .i64 (0), .int .i64 (0), .int .i64 (0), .int .i64 (0), .int .i64 (0), .int .i64 (0), .int .i64 (0), .int .i64 (0), .int .i64 (0), .int .i64 (0), .int .i64 (0), .int .i64 (0), .int .i64 (0), .int .i64 (0), .int .i64 (0), .int .i64 (0), .int .i64 (0), .int .i64 (0), .int .i64 (0), .int .u64 (0)] 26 (0, 0)) :: M) (fun w h => h) ?_
      refine TC.region ?_
      refine TL.val rfl rfl (Nat.le_of_ble_eq_true rfl) (Val.fieldAddr rfl fl26_7 sz23 rfl) ?_
      refine TL.val rfl rfl (Nat.le_of_ble_eq_true rfl) (Val.indexAddrA (i := 1) rfl rfl ar23 sz2 rfl (by first | decide | omega) rfl) ?_
      refine TL.does none rfl rfl rfl (Does.store (i := 0) rfl rfl rfl sz2 rfl rfl (by first | exact Nat.le_of_ble_eq_true rfl | decide | omega) rfl rfl) ?_
      rintro _ _ ⟨rfl, rfl⟩
      refine TL.nil ?_
      refine AtX.then ?_
      refine TC.env (E' := [(2, _), (3, _), (4, _)]) (Sub.cons rfl (Sub.cons rfl (Sub.cons rfl (Sub.nil _)))) ?_
      refine TC.seq ?_
      refine TC.seq ?_
      refine TC.region ?_
      refine TL.val rfl rfl (Nat.le_of_ble_eq_true rfl) (Val.assign rfl) ?_
      refine TL.nil ?_
      refine AtX.then ?_
      refine TC.env (E' := [(2, _), (3, _), (4, _), (6, _)]) (Sub.cons rfl (Sub.cons rfl (Sub.cons rfl (Sub.cons rfl (Sub.nil _))))) ?_
      refine TC.block ?_
      refine TC.loop (ι := Nat) (fun i => [(2, .pointer (some ⟨b1, 0, none⟩)), (3, .pointer (some ⟨b3, 0, none⟩)), (4, .pointer (some ⟨b4, 0, none⟩)), (6, .int .i64 (i : Nat))]) (fun i => (b3, .cells #[.int .i64 (3 * a0 + 1 + a1), .int .i64 (a0), .int .i64 (1 + a2), .int .i64 (2 * a0 + 1 + a3), .int .i64 (1 + a4), .int .i64 (1 + a5), .int .i64 (1 + a6), .int .i64 (if 0 < i then 1 + a7 else 1000), .int .i64 (if 1 < i then 1 + a8 else 0), .int .i64 (0), .int .i64 (0), .int .i64 (100), .int .i64 (1), .int .i64 (100), .int .i64 (0), .int .i64 (3), .int .i64 (4), .int .i64 (100), .int .i64 (4), .int .i64 (50), .int .i64 (2), .int .i64 (100), .int .i64 (3), .int .i64 (4), .int .i64 (256), .int .u64 (1)] 26 (0, 0)) :: (b4, .cells #[.int .i64 q0, .int .i64 q1, .int .i64 q2, .int .i64 q3, .int .i64 q4, .int .i64 q5, .int .i64 q6, .int .i64 q7, .int .i64 q8, .int .i64 q9, .int .i64 q10, .int .i64 q11, .int .i64 q12, .int .i64 q13, .int .i64 q14, .int .i64 q15, .int .i64 q16, .int .i64 q17, .int .i64 q18, .int .i64 q19] 83 (0, 0)) :: (b1, .cells #[.int .i64 (0), .int .i64 (0), .int .i64 (0), .int .i64 (0), .int .i64 (0), .int .i64 (0), .int .i64 (0), .int .i64 (0), .int .i64 (0), .int .i64 (0), .int .i64 (0), .int .i64 (0), .int .i64 (0), .int .i64 (0), .int .i64 (0), .int .i64 (0), .int .i64 (0), .int .i64 (0), .int .i64 (0), .int .i64 (0), .int .i64 (0), .int .i64 (0), .int .i64 (0), .int .i64 (0), .int .i64 (0), .int .u64 (0)] 26 (0, 0)) :: M) (fun i => (i : Int) ≤ 1 + a2) (fun i => 2 - i) 0 ?_ (Sub.cons rfl (Sub.cons rfl (Sub.cons rfl (Sub.cons rfl (Sub.nil _))))) (fun _ h => h) ?_
      · show ((0 : Nat) : Int) ≤ 1 + a2; omega
      intro i hi
      refine TC.seq ?_
      refine TC.seq ?_
      refine TC.region ?_
      refine TL.val rfl rfl (Nat.le_of_ble_eq_true rfl) (Val.move rfl) ?_
      refine TL.val rfl rfl (Nat.le_of_ble_eq_true rfl) (Val.fieldAddr rfl fl26_2 sz3 rfl) ?_
      refine TL.val rfl rfl (Nat.le_of_ble_eq_true rfl) (Val.load 0 rfl ag3 rfl rfl) ?_
      refine TL.val rfl rfl (Nat.le_of_ble_eq_true rfl) (Val.lss rfl rfl) ?_
      refine TL.nil ?_
      refine AtX.then ?_
      first | refine TC.condP rfl (fun c3 => ?_) (fun c3 => ?_) | refine TC.condN rfl (fun c3 => ?_) (fun c3 => ?_) | refine TC.condB rfl (fun c3 => ?_) (fun c3 => ?_) | refine TC.cond rfl (fun c3 => ?_) (fun c3 => ?_)
      · skip
        refine TC.skip ?_
        refine AtX.then ?_
        refine TC.seq ?_
        refine TC.block ?_
        have hi01 : i = 0 ∨ i = 1 := by omega
        refine TC.region ?_
        refine TL.val rfl rfl (Nat.le_of_ble_eq_true rfl) (Val.move rfl) ?_
        refine TL.val rfl rfl (Nat.le_of_ble_eq_true rfl) (Val.move rfl) ?_
        refine TL.val rfl rfl (Nat.le_of_ble_eq_true rfl) (Val.add rfl rfl (r := ((7 + i : Nat) : Int)) (by rw [w_i64 (by omega) (by omega)]; push_cast; rfl)) ?_
        refine TL.val rfl rfl (Nat.le_of_ble_eq_true rfl) (Val.indexAddrA (i := 7 + i) (r := 7 + i) rfl rfl ar83 sz3 rfl (by omega) (by omega)) ?_
        refine TL.val rfl rfl (Nat.le_of_ble_eq_true rfl) (Val.load 1 rfl ag3 rfl (v := .int .i64 (if i = 0 then q7 else q8)) (by rcases hi01 with rfl | rfl <;> rfl)) ?_
        refine TL.val rfl rfl (Nat.le_of_ble_eq_true rfl) (Val.rem rfl rfl (by decide) (r := if i = 0 then a7 else a8) (by rcases hi01 with rfl | rfl <;> assumption)) ?_
        refine TL.val rfl rfl (Nat.le_of_ble_eq_true rfl) (Val.add rfl rfl (r := 1 + (if i = 0 then a7 else a8)) (w_i64 (by split <;> omega) (by split <;> omega))) ?_
        refine TL.val rfl rfl (Nat.le_of_ble_eq_true rfl) (Val.fieldAddr rfl fl26_7 sz23 rfl) ?_
        refine TL.val rfl rfl (Nat.le_of_ble_eq_true rfl) (Val.indexAddrA (i := i) (r := 7 + i) rfl rfl ar23 sz2 rfl (by omega) (by omega)) ?_
        refine TL.does none rfl rfl rfl (Does.store (i := 0) (cs' := #[.int .i64 (3 * a0 + 1 + a1), .int .i64 (a0), .int .i64 (1 + a2), .int .i64 (2 * a0 + 1 + a3), .int .i64 (1 + a4), .int .i64 (1 + a5), .int .i64 (1 + a6), .int .i64 (if 0 < i + 1 then 1 + a7 else 1000), .int .i64 (if 1 < i + 1 then 1 + a8 else 0), .int .i64 (0), .int .i64 (0), .int .i64 (100), .int .i64 (1), .int .i64 (100), .int .i64 (0), .int .i64 (3), .int .i64 (4), .int .i64 (100), .int .i64 (4), .int .i64 (50), .int .i64 (2), .int .i64 (100), .int .i64 (3), .int .i64 (4), .int .i64 (256), .int .u64 (1)]) (M' := (b3, .cells #[.int .i64 (3 * a0 + 1 + a1), .int .i64 (a0), .int .i64 (1 + a2), .int .i64 (2 * a0 + 1 + a3), .int .i64 (1 + a4), .int .i64 (1 + a5), .int .i64 (1 + a6), .int .i64 (if 0 < i + 1 then 1 + a7 else 1000), .int .i64 (if 1 < i + 1 then 1 + a8 else 0), .int .i64 (0), .int .i64 (0), .int .i64 (100), .int .i64 (1), .int .i64 (100), .int .i64 (0), .int .i64 (3), .int .i64 (4), .int .i64 (100), .int .i64 (4), .int .i64 (50), .int .i64 (2), .int .i64 (100), .int .i64 (3), .int .i64 (4), .int .i64 (256), .int .u64 (1)] 26 (0, 0)) :: (b4, .cells #[.int .i64 q0, .int .i64 q1, .int .i64 q2, .int .i64 q3, .int .i64 q4, .int .i64 q5, .int .i64 q6, .int .i64 q7, .int .i64 q8, .int .i64 q9, .int .i64 q10, .int .i64 q11, .int .i64 q12, .int .i64 q13, .int .i64 q14, .int .i64 q15, .int .i64 q16, .int .i64 q17, .int .i64 q18, .int .i64 q19] 83 (0, 0)) :: (b1, .cells #[.int .i64 (0), .int .i64 (0), .int .i64 (0), .int .i64 (0), .int .i64 (0), .int .i64 (0), .int .i64 (0), .int .i64 (0), .int .i64 (0), .int .i64 (0), .int .i64 (0), .int .i64 (0), .int .i64 (0), .int .i64 (0), .int .i64 (0), .int .i64 (0), .int .i64 (0), .int .i64 (0), .int .i64 (0), .int .i64 (0), .int .i64 (0), .int .i64 (0), .int .i64 (0), .int .i64 (0), .int .i64 (0), .int .u64 (0)] 26 (0, 0)) :: M) rfl rfl rfl sz2 rfl rfl (by show 7 + i + 1 ≤ 26; omega) (by rcases hi01 with rfl | rfl <;> rfl) rfl) ?_
        rintro _ _ ⟨rfl, rfl⟩
        refine TL.nil ?_
        refine AtX.blk ?_
        refine AtX.then ?_
        refine TC.region ?_
        refine TL.val rfl rfl (Nat.le_of_ble_eq_true rfl) (Val.move rfl) ?_
        refine TL.val rfl rfl (Nat.le_of_ble_eq_true rfl) (Val.add rfl rfl (w_i64 (by omega) (by omega))) ?_
        refine TL.val rfl rfl (Nat.le_of_ble_eq_true rfl) (Val.assign rfl) ?_
        refine TL.nil ?_
        refine AtX.round (i + 1) ?_ ?_ (Sub.cons rfl (Sub.cons rfl (Sub.cons rfl (Sub.cons rfl (Sub.nil _))))) (fun _ h => h)
        · show ((i + 1 : Nat) : Int) ≤ 1 + a2; omega
        · omega
      · skip
        refine TC.exit ?_
        refine AtX.seqX ?_
        refine AtX.seqX ?_
        refine AtX.hit ?_
        refine AtX.then ?_
        refine TC.env (E' := [(2, _), (3, _), (4, _)]) (Sub.cons rfl (Sub.cons rfl (Sub.cons rfl (Sub.nil _)))) ?_
        refine TC.seq ?_
        obtain ⟨T0, hT0⟩ : ∃ T0 : Int, T0 = if 0 < i then 1 + a7 else 1000 := ⟨_, rfl⟩
        obtain ⟨T1, hT1⟩ : ∃ T1 : Int, T1 = if 1 < i then 1 + a8 else 0 := ⟨_, rfl⟩
        rw [← hT0, ← hT1]
        have hT0b : 1 ≤ T0 ∧ T0 ≤ 2000 := by rw [hT0]; split <;> omega
        have hT1b : (1 < 1 + a2 → 1 ≤ T1 ∧ T1 ≤ 2000) ∧ (1 + a2 ≤ 1 → T1 = 0) := by rw [hT1]; split <;> omega
        refine TC.region ?_
        refine TL.val rfl rfl (Nat.le_of_ble_eq_true rfl) (Val.indexAddrA (i := 9) rfl rfl ar83 sz3 rfl (by first | decide | omega) rfl) ?_
        refine TL.val rfl rfl (Nat.le_of_ble_eq_true rfl) (Val.load 1 rfl ag3 rfl rfl) ?_
        refine TL.val rfl rfl (Nat.le_of_ble_eq_true rfl) (Val.rem rfl rfl (by first | decide | omega) (r := a9) ha9) ?_
        refine TL.val rfl rfl (Nat.le_of_ble_eq_true rfl) (Val.fieldAddr rfl fl26_8 sz3 rfl) ?_
        refine TL.does none rfl rfl rfl (Does.store (i := 0) rfl rfl rfl sz3 rfl rfl (by first | exact Nat.le_of_ble_eq_true rfl | decide | omega) rfl rfl) ?_
        rintro _ _ ⟨rfl, rfl⟩
        refine TL.nil ?_
        refine AtX.then ?_
        refine TC.env (E' := [(2, _), (3, _), (4, _)]) (Sub.cons rfl (Sub.cons rfl (Sub.cons rfl (Sub.nil _)))) ?_
        refine TC.seq ?_
        refine TC.heap (M' := (b3, .cells #[.int .i64 (3 * a0 + 1 + a1), .int .i64 (a0), .int .i64 (1 + a2), .int .i64 (2 * a0 + 1 + a3), .int .i64 (1 + a4), .int .i64 (1 + a5), .int .i64 (1 + a6), .int .i64 (T0), .int .i64 (T1), .int .i64 (0), .int .i64 (0), .int .i64 (a9), .int .i64 (1), .int .i64 (100), .int .i64 (0), .int .i64 (3), .int .i64 (4), .int .i64 (100), .int .i64 (4), .int .i64 (50), .int .i64 (2), .int .i64 (100), .int .i64 (3), .int .i64 (4), .int .i64 (256), .int .u64 (1)] 26 (0, 0)) :: (b4, .cells #[.int .i64 q0, .int .i64 q1, .int .i64 q2, .int .i64 q3, .int .i64 q4, .int .i64 q5, .int .i64 q6, .int .i64 q7, .int .i64 q8, .int .i64 q9, .int .i64 q10, .int .i64 q11, .int .i64 q12, .int .i64 q13, .int .i64 q14, .int .i64 q15, .int .i64 q16, .int .i64 q17, .int .i64 q18, .int .i64 q19] 83 (0, 0)) :: (b1, .cells #[.int .i64 (0), .int .i64 (0), .int .i64 (0), .int .i64 (0), .int .i64 (0), .int .i64 (0), .int .i64 (0), .int .i64 (0), .int .i64 (0), .int .i64 (0), .int .i64 (0), .int .i64 (0), .int .i64 (0), .int .i64 (0), .int .i64 (0), .int .i64 (0), .int .i64 (0), .int .i64 (0), .int .i64 (0), .int .i64 (0), .int .i64 (0), .int .i64 (0), .int .i64 (0), .int .i64 (0), .int .i64 (0), .int .u64 (0)] 26 (0, 0)) :: M) (fun w h => h) ?_
        refine TC.region ?_
        refine TL.val rfl rfl (Nat.le_of_ble_eq_true rfl) (Val.indexAddrA (i := 10) rfl rfl ar83 sz3 rfl (by first | decide | omega) rfl) ?_
        refine TL.val rfl rfl (Nat.le_of_ble_eq_true rfl) (Val.load 1 rfl ag3 rfl rfl) ?_
        refine TL.val rfl rfl (Nat.le_of_ble_eq_true rfl) (Val.rem rfl rfl (by first | decide | omega) (r := a10) ha10) ?_
        refine TL.val rfl rfl (Nat.le_of_ble_eq_true rfl) (Val.add rfl rfl (w_i64 (by omega) (by omega))) ?_
        refine TL.val rfl rfl (Nat.le_of_ble_eq_true rfl) (Val.fieldAddr rfl fl26_9 sz3 rfl) ?_
        refine TL.does none rfl rfl rfl (Does.store (i := 0) rfl rfl rfl sz3 rfl rfl (by first | exact Nat.le_of_ble_eq_true rfl | decide | omega) rfl rfl) ?_
        rintro _ _ ⟨rfl, rfl⟩
        refine TL.nil ?_
        refine AtX.then ?_
        refine TC.env (E' := [(2, _), (3, _), (4, _)]) (Sub.cons rfl (Sub.cons rfl (Sub.cons rfl (Sub.nil _)))) ?_
        refine TC.seq ?_
        refine TC.heap (M' := (b3, .cells #[.int .i64 (3 * a0 + 1 + a1), .int .i64 (a0), .int .i64 (1 + a2), .int .i64 (2 * a0 + 1 + a3), .int .i64 (1 + a4), .int .i64 (1 + a5), .int .i64 (1 + a6), .int .i64 (T0), .int .i64 (T1), .int .i64 (0), .int .i64 (0), .int .i64 (a9), .int .i64 (1 + a10), .int .i64 (100), .int .i64 (0), .int .i64 (3), .int .i64 (4), .int .i64 (100), .int .i64 (4), .int .i64 (50), .int .i64 (2), .int .i64 (100), .int .i64 (3), .int .i64 (4), .int .i64 (256), .int .u64 (1)] 26 (0, 0)) :: (b4, .cells #[.int .i64 q0, .int .i64 q1, .int .i64 q2, .int .i64 q3, .int .i64 q4, .int .i64 q5, .int .i64 q6, .int .i64 q7, .int .i64 q8, .int .i64 q9, .int .i64 q10, .int .i64 q11, .int .i64 q12, .int .i64 q13, .int .i64 q14, .int .i64 q15, .int .i64 q16, .int .i64 q17, .int .i64 q18, .int .i64 q19] 83 (0, 0)) :: (b1, .cells #[.int .i64 (0), .int .i64 (0), .int .i64 (0), .int .i64 (0), .int .i64 (0), .int .i64 (0), .int .i64 (0), .int .i64 (0), .int .i64 (0), .int .i64 (0), .int .i64 (0), .int .i64 (0), .int .i64 (0), .int .i64 (0), .int .i64 (0), .int .i64 (0), .int .i64 (0), .int .i64 (0), .int .i64 (0), .int .i64 (0), .int .i64 (0), .int .i64 (0), .int .i64 (0), .int .i64 (0), .int .i64 (0), .int .u64 (0)] 26 (0, 0)) :: M) (fun w h => h) ?_
        refine TC.region ?_
        refine TL.val rfl rfl (Nat.le_of_ble_eq_true rfl) (Val.fieldAddr rfl fl26_9 sz3 rfl) ?_
        refine TL.val rfl rfl (Nat.le_of_ble_eq_true rfl) (Val.load 0 rfl ag3 rfl rfl) ?_
        refine TL.val rfl rfl (Nat.le_of_ble_eq_true rfl) (Val.indexAddrA (i := 10) rfl rfl ar83 sz3 rfl (by first | decide | omega) rfl) ?_
        refine TL.val rfl rfl (Nat.le_of_ble_eq_true rfl) (Val.load 1 rfl ag3 rfl rfl) ?_
        refine TL.val rfl rfl (Nat.le_of_ble_eq_true rfl) (Val.quo rfl rfl (by decide) (r := b10) (by rw [hb10]; exact w_i64 (by omega) (by omega))) ?_
        refine TL.val rfl rfl (Nat.le_of_ble_eq_true rfl) (Val.rem rfl rfl (by first | decide | omega) (r := c10) hc10) ?_
        refine TL.val rfl rfl (Nat.le_of_ble_eq_true rfl) (Val.add rfl rfl (w_i64 (by omega) (by omega))) ?_
        refine TL.val rfl rfl (Nat.le_of_ble_eq_true rfl) (Val.fieldAddr rfl fl26_10 sz3 rfl) ?_
        refine TL.does none rfl rfl rfl (Does.store (i := 0) rfl rfl rfl sz3 rfl rfl (by first | exact Nat.le_of_ble_eq_true rfl | decide | omega) rfl rfl) ?_
        rintro _ _ ⟨rfl, rfl⟩
        refine TL.nil ?_
        refine AtX.then ?_
        refine TC.env (E' := [(2, _), (3, _), (4, _)]) (Sub.cons rfl (Sub.cons rfl (Sub.cons rfl (Sub.nil _)))) ?_
        refine TC.seq ?_
        refine TC.heap (M' := (b3, .cells #[.int .i64 (3 * a0 + 1 + a1), .int .i64 (a0), .int .i64 (1 + a2), .int .i64 (2 * a0 + 1 + a3), .int .i64 (1 + a4), .int .i64 (1 + a5), .int .i64 (1 + a6), .int .i64 (T0), .int .i64 (T1), .int .i64 (0), .int .i64 (0), .int .i64 (a9), .int .i64 (1 + a10), .int .i64 (1 + a10 + c10), .int .i64 (0), .int .i64 (3), .int .i64 (4), .int .i64 (100), .int .i64 (4), .int .i64 (50), .int .i64 (2), .int .i64 (100), .int .i64 (3), .int .i64 (4), .int .i64 (256), .int .u64 (1)] 26 (0, 0)) :: (b4, .cells #[.int .i64 q0, .int .i64 q1, .int .i64 q2, .int .i64 q3, .int .i64 q4, .int .i64 q5, .int .i64 q6, .int .i64 q7, .int .i64 q8, .int .i64 q9, .int .i64 q10, .int .i64 q11, .int .i64 q12, .int .i64 q13, .int .i64 q14, .int .i64 q15, .int .i64 q16, .int .i64 q17, .int .i64 q18, .int .i64 q19] 83 (0, 0)) :: (b1, .cells #[.int .i64 (0), .int .i64 (0), .int .i64 (0), .int .i64 (0), .int .i64 (0), .int .i64 (0), .int .i64 (0), .int .i64 (0), .int .i64 (0), .int .i64 (0), .int .i64 (0), .int .i64 (0), .int .i64 (0), .int .i64 (0), .int .i64 (0), .int .i64 (0), .int .i64 (0), .int .i64 (0), .int .i64 (0), .int .i64 (0), .int .i64 (0), .int .i64 (0), .int .i64 (0), .int .i64 (0), .int .i64 (0), .int .u64 (0)] 26 (0, 0)) :: M) (fun w h => h) ?_
        refine TC.drawL ((b4, .cells #[.int .i64 q0, .int .i64 q1, .int .i64 q2, .int .i64 q3, .int .i64 q4, .int .i64 q5, .int .i64 q6, .int .i64 q7, .int .i64 q8, .int .i64 q9, .int .i64 q10, .int .i64 q11, .int .i64 q12, .int .i64 q13, .int .i64 q14, .int .i64 q15, .int .i64 q16, .int .i64 q17, .int .i64 q18, .int .i64 q19] 83 (0, 0)) :: (b1, .cells #[.int .i64 (0), .int .i64 (0), .int .i64 (0), .int .i64 (0), .int .i64 (0), .int .i64 (0), .int .i64 (0), .int .i64 (0), .int .i64 (0), .int .i64 (0), .int .i64 (0), .int .i64 (0), .int .i64 (0), .int .i64 (0), .int .i64 (0), .int .i64 (0), .int .i64 (0), .int .i64 (0), .int .i64 (0), .int .i64 (0), .int .i64 (0), .int .i64 (0), .int .i64 (0), .int .i64 (0), .int .i64 (0), .int .u64 (0)] 26 (0, 0)) :: M) mixed 10 ?_
        refine TA.tk 0 1 rfl rfl rfl (Val.indexAddrA (i := 11) rfl rfl ar83 sz3 rfl (by first | decide | omega) rfl) ?_
        refine TA.tk 1 3 rfl rfl rfl (Val.load 0 rfl ag3 rfl rfl) ?_
        refine TA.tk 2 7 rfl rfl rfl (Val.rem rfl rfl (by first | decide | omega) (r := a11) ha11) ?_
        refine TA.tk 3 15 rfl rfl rfl (Val.indexAddrA (i := 12) rfl rfl ar83 sz3 rfl (by first | decide | omega) rfl) ?_
        refine TA.tk 4 31 rfl rfl rfl (Val.load 0 rfl ag3 rfl rfl) ?_
        refine TA.tk 5 63 rfl rfl rfl (Val.rem rfl rfl (by first | decide | omega) (r := a12) ha12) ?_
        refine TA.tk 6 127 rfl rfl rfl (Val.fieldAddr rfl fl26_11 sz3 rfl) ?_
        refine TA.one 7 (by kernel_rfl) ?_
        refine TO.dz 255 none rfl rfl rfl rfl (Does.store (i := 0) rfl rfl rfl sz3 rfl rfl (by first | exact Nat.le_of_ble_eq_true rfl | decide | omega) rfl rfl) ?_
        rintro _ _ ⟨rfl, rfl⟩
        refine roK ?_
        refine TA.tk 8 511 rfl rfl rfl (Val.fieldAddr rfl fl26_12 sz3 rfl) ?_
        refine TA.one 9 (by kernel_rfl) ?_
        refine TO.dz 1023 none rfl rfl rfl rfl (Does.store (i := 0) rfl rfl rfl sz3 rfl rfl (by first | exact Nat.le_of_ble_eq_true rfl | decide | omega) rfl rfl) ?_
        rintro _ _ ⟨rfl, rfl⟩
        refine roK ?_
        refine TA.done (by kernel_rfl) ?_
        refine AtX.then ?_
        refine TC.env (E' := [(2, _), (3, _), (4, _)]) (Sub.cons rfl (Sub.cons rfl (Sub.cons rfl (Sub.nil _)))) ?_
        refine TC.seq ?_
        refine TC.heap (M' := (b3, .cells #[.int .i64 (3 * a0 + 1 + a1), .int .i64 (a0), .int .i64 (1 + a2), .int .i64 (2 * a0 + 1 + a3), .int .i64 (1 + a4), .int .i64 (1 + a5), .int .i64 (1 + a6), .int .i64 (T0), .int .i64 (T1), .int .i64 (0), .int .i64 (0), .int .i64 (a9), .int .i64 (1 + a10), .int .i64 (1 + a10 + c10), .int .i64 (a11), .int .i64 (a12), .int .i64 (4), .int .i64 (100), .int .i64 (4), .int .i64 (50), .int .i64 (2), .int .i64 (100), .int .i64 (3), .int .i64 (4), .int .i64 (256), .int .u64 (1)] 26 (0, 0)) :: (b4, .cells #[.int .i64 q0, .int .i64 q1, .int .i64 q2, .int .i64 q3, .int .i64 q4, .int .i64 q5, .int .i64 q6, .int .i64 q7, .int .i64 q8, .int .i64 q9, .int .i64 q10, .int .i64 q11, .int .i64 q12, .int .i64 q13, .int .i64 q14, .int .i64 q15, .int .i64 q16, .int .i64 q17, .int .i64 q18, .int .i64 q19] 83 (0, 0)) :: (b1, .cells #[.int .i64 (0), .int .i64 (0), .int .i64 (0), .int .i64 (0), .int .i64 (0), .int .i64 (0), .int .i64 (0), .int .i64 (0), .int .i64 (0), .int .i64 (0), .int .i64 (0), .int .i64 (0), .int .i64 (0), .int .i64 (0), .int .i64 (0), .int .i64 (0), .int .i64 (0), .int .i64 (0), .int .i64 (0), .int .i64 (0), .int .i64 (0), .int .i64 (0), .int .i64 (0), .int .i64 (0), .int .i64 (0), .int .u64 (0)] 26 (0, 0)) :: M) (fun w h => h) ?_
        refine TC.drawL ((b4, .cells #[.int .i64 q0, .int .i64 q1, .int .i64 q2, .int .i64 q3, .int .i64 q4, .int .i64 q5, .int .i64 q6, .int .i64 q7, .int .i64 q8, .int .i64 q9, .int .i64 q10, .int .i64 q11, .int .i64 q12, .int .i64 q13, .int .i64 q14, .int .i64 q15, .int .i64 q16, .int .i64 q17, .int .i64 q18, .int .i64 q19] 83 (0, 0)) :: (b1, .cells #[.int .i64 (0), .int .i64 (0), .int .i64 (0), .int .i64 (0), .int .i64 (0), .int .i64 (0), .int .i64 (0), .int .i64 (0), .int .i64 (0), .int .i64 (0), .int .i64 (0), .int .i64 (0), .int .i64 (0), .int .i64 (0), .int .i64 (0), .int .i64 (0), .int .i64 (0), .int .i64 (0), .int .i64 (0), .int .i64 (0), .int .i64 (0), .int .i64 (0), .int .i64 (0), .int .i64 (0), .int .i64 (0), .int .u64 (0)] 26 (0, 0)) :: M) mixed 13 ?_
        refine TA.tk 0 1 rfl rfl rfl (Val.indexAddrA (i := 13) rfl rfl ar83 sz3 rfl (by first | decide | omega) rfl) ?_
        refine TA.tk 1 3 rfl rfl rfl (Val.load 0 rfl ag3 rfl rfl) ?_
        refine TA.tk 2 7 rfl rfl rfl (Val.rem rfl rfl (by first | decide | omega) (r := a13) ha13) ?_
        refine TA.tk 3 15 rfl rfl rfl (Val.add rfl rfl (w_i64 (by omega) (by omega))) ?_
        refine TA.tk 4 31 rfl rfl rfl (Val.indexAddrA (i := 13) rfl rfl ar83 sz3 rfl (by first | decide | omega) rfl) ?_
        refine TA.tk 5 63 rfl rfl rfl (Val.load 0 rfl ag3 rfl rfl) ?_
        refine TA.tk 6 127 rfl rfl rfl (Val.quo rfl rfl (by decide) (r := b13) (by rw [hb13]; exact w_i64 (by omega) (by omega))) ?_
        refine TA.tk 7 255 rfl rfl rfl (Val.rem rfl rfl (by first | decide | omega) (r := c13) hc13) ?_
        refine TA.tk 8 511 rfl rfl rfl (Val.add rfl rfl (w_i64 (by omega) (by omega))) ?_
        refine TA.tk 9 1023 rfl rfl rfl (Val.fieldAddr rfl fl26_13 sz3 rfl) ?_
        refine TA.one 10 (by kernel_rfl) ?_
        refine TO.dz 2047 none rfl rfl rfl rfl (Does.store (i := 0) rfl rfl rfl sz3 rfl rfl (by first | exact Nat.le_of_ble_eq_true rfl | decide | omega) rfl rfl) ?_
        rintro _ _ ⟨rfl, rfl⟩
        refine roK ?_
        refine TA.tk 11 4095 rfl rfl rfl (Val.fieldAddr rfl fl26_14 sz3 rfl) ?_
        refine TA.one 12 (by kernel_rfl) ?_
        refine TO.dz 8191 none rfl rfl rfl rfl (Does.store (i := 0) rfl rfl rfl sz3 rfl rfl (by first | exact Nat.le_of_ble_eq_true rfl | decide | omega) rfl rfl) ?_
        rintro _ _ ⟨rfl, rfl⟩
        refine roK ?_
        refine TA.done (by kernel_rfl) ?_
        refine AtX.then ?_
        refine TC.env (E' := [(2, _), (3, _), (4, _)]) (Sub.cons rfl (Sub.cons rfl (Sub.cons rfl (Sub.nil _)))) ?_
        refine TC.seq ?_
        refine TC.heap (M' := (b3, .cells #[.int .i64 (3 * a0 + 1 + a1), .int .i64 (a0), .int .i64 (1 + a2), .int .i64 (2 * a0 + 1 + a3), .int .i64 (1 + a4), .int .i64 (1 + a5), .int .i64 (1 + a6), .int .i64 (T0), .int .i64 (T1), .int .i64 (0), .int .i64 (0), .int .i64 (a9), .int .i64 (1 + a10), .int .i64 (1 + a10 + c10), .int .i64 (a11), .int .i64 (a12), .int .i64 (1 + a13), .int .i64 (1 + c13), .int .i64 (4), .int .i64 (50), .int .i64 (2), .int .i64 (100), .int .i64 (3), .int .i64 (4), .int .i64 (256), .int .u64 (1)] 26 (0, 0)) :: (b4, .cells #[.int .i64 q0, .int .i64 q1, .int .i64 q2, .int .i64 q3, .int .i64 q4, .int .i64 q5, .int .i64 q6, .int .i64 q7, .int .i64 q8, .int .i64 q9, .int .i64 q10, .int .i64 q11, .int .i64 q12, .int .i64 q13, .int .i64 q14, .int .i64 q15, .int .i64 q16, .int .i64 q17, .int .i64 q18, .int .i64 q19] 83 (0, 0)) :: (b1, .cells #[.int .i64 (0), .int .i64 (0), .int .i64 (0), .int .i64 (0), .int .i64 (0), .int .i64 (0), .int .i64 (0), .int .i64 (0), .int .i64 (0), .int .i64 (0), .int .i64 (0), .int .i64 (0), .int .i64 (0), .int .i64 (0), .int .i64 (0), .int .i64 (0), .int .i64 (0), .int .i64 (0), .int .i64 (0), .int .i64 (0), .int .i64 (0), .int .i64 (0), .int .i64 (0), .int .i64 (0), .int .i64 (0), .int .u64 (0)] 26 (0, 0)) :: M) (fun w h => h) ?_
        refine TC.drawL ((b4, .cells #[.int .i64 q0, .int .i64 q1, .int .i64 q2, .int .i64 q3, .int .i64 q4, .int .i64 q5, .int .i64 q6, .int .i64 q7, .int .i64 q8, .int .i64 q9, .int .i64 q10, .int .i64 q11, .int .i64 q12, .int .i64 q13, .int .i64 q14, .int .i64 q15, .int .i64 q16, .int .i64 q17, .int .i64 q18, .int .i64 q19] 83 (0, 0)) :: (b1, .cells #[.int .i64 (0), .int .i64 (0), .int .i64 (0), .int .i64 (0), .int .i64 (0), .int .i64 (0), .int .i64 (0), .int .i64 (0), .int .i64 (0), .int .i64 (0), .int .i64 (0), .int .i64 (0), .int .i64 (0), .int .i64 (0), .int .i64 (0), .int .i64 (0), .int .i64 (0), .int .i64 (0), .int .i64 (0), .int .i64 (0), .int .i64 (0), .int .i64 (0), .int .i64 (0), .int .i64 (0), .int .i64 (0), .int .u64 (0)] 26 (0, 0)) :: M) mixed 13 ?_
        refine TA.tk 0 1 rfl rfl rfl (Val.indexAddrA (i := 14) rfl rfl ar83 sz3 rfl (by first | decide | omega) rfl) ?_
        refine TA.tk 1 3 rfl rfl rfl (Val.load 0 rfl ag3 rfl rfl) ?_
        refine TA.tk 2 7 rfl rfl rfl (Val.rem rfl rfl (by first | decide | omega) (r := a14) ha14) ?_
        refine TA.tk 3 15 rfl rfl rfl (Val.add rfl rfl (w_i64 (by omega) (by omega))) ?_
        refine TA.tk 4 31 rfl rfl rfl (Val.indexAddrA (i := 14) rfl rfl ar83 sz3 rfl (by first | decide | omega) rfl) ?_
        refine TA.tk 5 63 rfl rfl rfl (Val.load 0 rfl ag3 rfl rfl) ?_
        refine TA.tk 6 127 rfl rfl rfl (Val.quo rfl rfl (by decide) (r := b14) (by rw [hb14]; exact w_i64 (by omega) (by omega))) ?_
        refine TA.tk 7 255 rfl rfl rfl (Val.rem rfl rfl (by first | decide | omega) (r := c14) hc14) ?_
        refine TA.tk 8 511 rfl rfl rfl (Val.add rfl rfl (w_i64 (by omega) (by omega))) ?_
        refine TA.tk 9 1023 rfl rfl rfl (Val.fieldAddr rfl fl26_15 sz3 rfl) ?_
        refine TA.one 10 (by kernel_rfl) ?_
        refine TO.dz 2047 none rfl rfl rfl rfl (Does.store (i := 0) rfl rfl rfl sz3 rfl rfl (by first | exact Nat.le_of_ble_eq_true rfl | decide | omega) rfl rfl) ?_
        rintro _ _ ⟨rfl, rfl⟩
        refine roK ?_
        refine TA.tk 11 4095 rfl rfl rfl (Val.fieldAddr rfl fl26_16 sz3 rfl) ?_
        refine TA.one 12 (by kernel_rfl) ?_
        refine TO.dz 8191 none rfl rfl rfl rfl (Does.store (i := 0) rfl rfl rfl sz3 rfl rfl (by first | exact Nat.le_of_ble_eq_true rfl | decide | omega) rfl rfl) ?_
        rintro _ _ ⟨rfl, rfl⟩
        refine roK ?_
        refine TA.done (by kernel_rfl) ?_
        refine AtX.then ?_
        refine TC.env (E' := [(2, _), (3, _), (4, _)]) (Sub.cons rfl (Sub.cons rfl (Sub.cons rfl (Sub.nil _)))) ?_
        refine TC.seq ?_
        refine TC.heap (M' := (b3, .cells #[.int .i64 (3 * a0 + 1 + a1), .int .i64 (a0), .int .i64 (1 + a2), .int .i64 (2 * a0 + 1 + a3), .int .i64 (1 + a4), .int .i64 (1 + a5), .int .i64 (1 + a6), .int .i64 (T0), .int .i64 (T1), .int .i64 (0), .int .i64 (0), .int .i64 (a9), .int .i64 (1 + a10), .int .i64 (1 + a10 + c10), .int .i64 (a11), .int .i64 (a12), .int .i64 (1 + a13), .int .i64 (1 + c13), .int .i64 (1 + a14), .int .i64 (1 + c14), .int .i64 (2), .int .i64 (100), .int .i64 (3), .int .i64 (4), .int .i64 (256), .int .u64 (1)] 26 (0, 0)) :: (b4, .cells #[.int .i64 q0, .int .i64 q1, .int .i64 q2, .int .i64 q3, .int .i64 q4, .int .i64 q5, .int .i64 q6, .int .i64 q7, .int .i64 q8, .int .i64 q9, .int .i64 q10, .int .i64 q11, .int .i64 q12, .int .i64 q13, .int .i64 q14, .int .i64 q15, .int .i64 q16, .int .i64 q17, .int .i64 q18, .int .i64 q19] 83 (0, 0)) :: (b1, .cells #[.int .i64 (0), .int .i64 (0), .int .i64 (0), .int .i64 (0), .int .i64 (0), .int .i64 (0), .int .i64 (0), .int .i64 (0), .int .i64 (0), .int .i64 (0), .int .i64 (0), .int .i64 (0), .int .i64 (0), .int .i64 (0), .int .i64 (0), .int .i64 (0), .int .i64 (0), .int .i64 (0), .int .i64 (0), .int .i64 (0), .int .i64 (0), .int .i64 (0), .int .i64 (0), .int .i64 (0), .int .i64 (0), .int .u64 (0)] 26 (0, 0)) :: M) (fun w h => h) ?_
        refine TC.region ?_
        refine TL.val rfl rfl (Nat.le_of_ble_eq_true rfl) (Val.indexAddrA (i := 15) rfl rfl ar83 sz3 rfl (by first | decide | omega) rfl) ?_
        refine TL.val rfl rfl (Nat.le_of_ble_eq_true rfl) (Val.load 1 rfl ag3 rfl rfl) ?_
        refine TL.val rfl rfl (Nat.le_of_ble_eq_true rfl) (Val.rem rfl rfl (by first | decide | omega) (r := a15) ha15) ?_
        refine TL.val rfl rfl (Nat.le_of_ble_eq_true rfl) (Val.add rfl rfl (w_i64 (by omega) (by omega))) ?_
        refine TL.val rfl rfl (Nat.le_of_ble_eq_true rfl) (Val.fieldAddr rfl fl26_17 sz3 rfl) ?_
        refine TL.does none rfl rfl rfl (Does.store (i := 0) rfl rfl rfl sz3 rfl rfl (by first | exact Nat.le_of_ble_eq_true rfl | decide | omega) rfl rfl) ?_
        rintro _ _ ⟨rfl, rfl⟩
        refine TL.nil ?_
        refine AtX.then ?_
        refine TC.env (E' := [(2, _), (3, _), (4, _)]) (Sub.cons rfl (Sub.cons rfl (Sub.cons rfl (Sub.nil _)))) ?_
        refine TC.seq ?_
        refine TC.heap (M' := (b3, .cells #[.int .i64 (3 * a0 + 1 + a1), .int .i64 (a0), .int .i64 (1 + a2), .int .i64 (2 * a0 + 1 + a3), .int .i64 (1 + a4), .int .i64 (1 + a5), .int .i64 (1 + a6), .int .i64 (T0), .int .i64 (T1), .int .i64 (0), .int .i64 (0), .int .i64 (a9), .int .i64 (1 + a10), .int .i64 (1 + a10 + c10), .int .i64 (a11), .int .i64 (a12), .int .i64 (1 + a13), .int .i64 (1 + c13), .int .i64 (1 + a14), .int .i64 (1 + c14), .int .i64 (1 + a15), .int .i64 (100), .int .i64 (3), .int .i64 (4), .int .i64 (256), .int .u64 (1)] 26 (0, 0)) :: (b4, .cells #[.int .i64 q0, .int .i64 q1, .int .i64 q2, .int .i64 q3, .int .i64 q4, .int .i64 q5, .int .i64 q6, .int .i64 q7, .int .i64 q8, .int .i64 q9, .int .i64 q10, .int .i64 q11, .int .i64 q12, .int .i64 q13, .int .i64 q14, .int .i64 q15, .int .i64 q16, .int .i64 q17, .int .i64 q18, .int .i64 q19] 83 (0, 0)) :: (b1, .cells #[.int .i64 (0), .int .i64 (0), .int .i64 (0), .int .i64 (0), .int .i64 (0), .int .i64 (0), .int .i64 (0), .int .i64 (0), .int .i64 (0), .int .i64 (0), .int .i64 (0), .int .i64 (0), .int .i64 (0), .int .i64 (0), .int .i64 (0), .int .i64 (0), .int .i64 (0), .int .i64 (0), .int .i64 (0), .int .i64 (0), .int .i64 (0), .int .i64 (0), .int .i64 (0), .int .i64 (0), .int .i64 (0), .int .u64 (0)] 26 (0, 0)) :: M) (fun w h => h) ?_
        refine TC.region ?_
        refine TL.val rfl rfl (Nat.le_of_ble_eq_true rfl) (Val.indexAddrA (i := 16) rfl rfl ar83 sz3 rfl (by first | decide | omega) rfl) ?_
        refine TL.val rfl rfl (Nat.le_of_ble_eq_true rfl) (Val.load 1 rfl ag3 rfl rfl) ?_
        refine TL.val rfl rfl (Nat.le_of_ble_eq_true rfl) (Val.rem rfl rfl (by first | decide | omega) (r := a16) ha16) ?_
        refine TL.val rfl rfl (Nat.le_of_ble_eq_true rfl) (Val.fieldAddr rfl fl26_18 sz2 rfl) ?_
        refine TL.does none rfl rfl rfl (Does.store (i := 0) rfl rfl rfl sz2 rfl rfl (by first | exact Nat.le_of_ble_eq_true rfl | decide | omega) rfl rfl) ?_
        rintro _ _ ⟨rfl, rfl⟩
        refine TL.nil ?_
        refine AtX.then ?_
        refine TC.env (E' := [(2, _), (3, _), (4, _)]) (Sub.cons rfl (Sub.cons rfl (Sub.cons rfl (Sub.nil _)))) ?_
        refine TC.seq ?_
        refine TC.heap (M' := (b3, .cells #[.int .i64 (3 * a0 + 1 + a1), .int .i64 (a0), .int .i64 (1 + a2), .int .i64 (2 * a0 + 1 + a3), .int .i64 (1 + a4), .int .i64 (1 + a5), .int .i64 (1 + a6), .int .i64 (T0), .int .i64 (T1), .int .i64 (0), .int .i64 (0), .int .i64 (a9), .int .i64 (1 + a10), .int .i64 (1 + a10 + c10), .int .i64 (a11), .int .i64 (a12), .int .i64 (1 + a13), .int .i64 (1 + c13), .int .i64 (1 + a14), .int .i64 (1 + c14), .int .i64 (1 + a15), .int .i64 (a16), .int .i64 (3), .int .i64 (4), .int .i64 (256), .int .u64 (1)] 26 (0, 0)) :: (b4, .cells #[.int .i64 q0, .int .i64 q1, .int .i64 q2, .int .i64 q3, .int .i64 q4, .int .i64 q5, .int .i64 q6, .int .i64 q7, .int .i64 q8, .int .i64 q9, .int .i64 q10, .int .i64 q11, .int .i64 q12, .int .i64 q13, .int .i64 q14, .int .i64 q15, .int .i64 q16, .int .i64 q17, .int .i64 q18, .int .i64 q19] 83 (0, 0)) :: (b1, .cells #[.int .i64 (0), .int .i64 (0), .int .i64 (0), .int .i64 (0), .int .i64 (0), .int .i64 (0), .int .i64 (0), .int .i64 (0), .int .i64 (0), .int .i64 (0), .int .i64 (0), .int .i64 (0), .int .i64 (0), .int .i64 (0), .int .i64 (0), .int .i64 (0), .int .i64 (0), .int .i64 (0), .int .i64 (0), .int .i64 (0), .int .i64 (0), .int .i64 (0), .int .i64 (0), .int .i64 (0), .int .i64 (0), .int .u64 (0)] 26 (0, 0)) :: M) (fun w h => h) ?_
        refine TC.drawL ((b4, .cells #[.int .i64 q0, .int .i64 q1, .int .i64 q2, .int .i64 q3, .int .i64 q4, .int .i64 q5, .int .i64 q6, .int .i64 q7, .int .i64 q8, .int .i64 q9, .int .i64 q10, .int .i64 q11, .int .i64 q12, .int .i64 q13, .int .i64 q14, .int .i64 q15, .int .i64 q16, .int .i64 q17, .int .i64 q18, .int .i64 q19] 83 (0, 0)) :: (b1, .cells #[.int .i64 (0), .int .i64 (0), .int .i64 (0), .int .i64 (0), .int .i64 (0), .int .i64 (0), .int .i64 (0), .int .i64 (0), .int .i64 (0), .int .i64 (0), .int .i64 (0), .int .i64 (0), .int .i64 (0), .int .i64 (0), .int .i64 (0), .int .i64 (0), .int .i64 (0), .int .i64 (0), .int .i64 (0), .int .i64 (0), .int .i64 (0), .int .i64 (0), .int .i64 (0), .int .i64 (0), .int .i64 (0), .int .u64 (0)] 26 (0, 0)) :: M) mixed 13 ?_
        refine TA.tk 0 1 rfl rfl rfl (Val.indexAddrA (i := 17) rfl rfl ar83 sz3 rfl (by first | decide | omega) rfl) ?_
        refine TA.tk 1 3 rfl rfl rfl (Val.load 0 rfl ag3 rfl rfl) ?_
        refine TA.tk 2 7 rfl rfl rfl (Val.rem rfl rfl (by first | decide | omega) (r := a17) ha17) ?_
        refine TA.tk 3 15 rfl rfl rfl (Val.add rfl rfl (w_i64 (by omega) (by omega))) ?_
        refine TA.tk 4 31 rfl rfl rfl (Val.indexAddrA (i := 17) rfl rfl ar83 sz3 rfl (by first | decide | omega) rfl) ?_
        refine TA.tk 5 63 rfl rfl rfl (Val.load 0 rfl ag3 rfl rfl) ?_
        refine TA.tk 6 127 rfl rfl rfl (Val.quo rfl rfl (by decide) (r := b17) (by rw [hb17]; exact w_i64 (by omega) (by omega))) ?_
        refine TA.tk 7 255 rfl rfl rfl (Val.rem rfl rfl (by first | decide | omega) (r := c17) hc17) ?_
        refine TA.tk 8 511 rfl rfl rfl (Val.add rfl rfl (w_i64 (by omega) (by omega))) ?_
        refine TA.tk 9 1023 rfl rfl rfl (Val.fieldAddr rfl fl26_19 sz3 rfl) ?_
        refine TA.one 10 (by kernel_rfl) ?_
        refine TO.dz 2047 none rfl rfl rfl rfl (Does.store (i := 0) rfl rfl rfl sz3 rfl rfl (by first | exact Nat.le_of_ble_eq_true rfl | decide | omega) rfl rfl) ?_
        rintro _ _ ⟨rfl, rfl⟩
        refine roK ?_
        refine TA.tk 11 4095 rfl rfl rfl (Val.fieldAddr rfl fl26_20 sz3 rfl) ?_
        refine TA.one 12 (by kernel_rfl) ?_
        refine TO.dz 8191 none rfl rfl rfl rfl (Does.store (i := 0) rfl rfl rfl sz3 rfl rfl (by first | exact Nat.le_of_ble_eq_true rfl | decide | omega) rfl rfl) ?_
        rintro _ _ ⟨rfl, rfl⟩
        refine roK ?_
        refine TA.done (by kernel_rfl) ?_
        refine AtX.then ?_
        refine TC.env (E' := [(2, _), (3, _), (4, _)]) (Sub.cons rfl (Sub.cons rfl (Sub.cons rfl (Sub.nil _)))) ?_
        refine TC.seq ?_
        refine TC.heap (M' := (b3, .cells #[.int .i64 (3 * a0 + 1 + a1), .int .i64 (a0), .int .i64 (1 + a2), .int .i64 (2 * a0 + 1 + a3), .int .i64 (1 + a4), .int .i64 (1 + a5), .int .i64 (1 + a6), .int .i64 (T0), .int .i64 (T1), .int .i64 (0), .int .i64 (0), .int .i64 (a9), .int .i64 (1 + a10), .int .i64 (1 + a10 + c10), .int .i64 (a11), .int .i64 (a12), .int .i64 (1 + a13), .int .i64 (1 + c13), .int .i64 (1 + a14), .int .i64 (1 + c14), .int .i64 (1 + a15), .int .i64 (a16), .int .i64 (1 + a17), .int .i64 (1 + c17), .int .i64 (256), .int .u64 (1)] 26 (0, 0)) :: (b4, .cells #[.int .i64 q0, .int .i64 q1, .int .i64 q2, .int .i64 q3, .int .i64 q4, .int .i64 q5, .int .i64 q6, .int .i64 q7, .int .i64 q8, .int .i64 q9, .int .i64 q10, .int .i64 q11, .int .i64 q12, .int .i64 q13, .int .i64 q14, .int .i64 q15, .int .i64 q16, .int .i64 q17, .int .i64 q18, .int .i64 q19] 83 (0, 0)) :: (b1, .cells #[.int .i64 (0), .int .i64 (0), .int .i64 (0), .int .i64 (0), .int .i64 (0), .int .i64 (0), .int .i64 (0), .int .i64 (0), .int .i64 (0), .int .i64 (0), .int .i64 (0), .int .i64 (0), .int .i64 (0), .int .i64 (0), .int .i64 (0), .int .i64 (0), .int .i64 (0), .int .i64 (0), .int .i64 (0), .int .i64 (0), .int .i64 (0), .int .i64 (0), .int .i64 (0), .int .i64 (0), .int .i64 (0), .int .u64 (0)] 26 (0, 0)) :: M) (fun w h => h) ?_
        refine TC.region ?_
        refine TL.val rfl rfl (Nat.le_of_ble_eq_true rfl) (Val.indexAddrA (i := 18) rfl rfl ar83 sz3 rfl (by first | decide | omega) rfl) ?_
        refine TL.val rfl rfl (Nat.le_of_ble_eq_true rfl) (Val.load 1 rfl ag3 rfl rfl) ?_
        refine TL.val rfl rfl (Nat.le_of_ble_eq_true rfl) (Val.rem rfl rfl (by first | decide | omega) (r := a18) ha18) ?_
        refine TL.val rfl rfl (Nat.le_of_ble_eq_true rfl) (Val.add rfl rfl (w_i64 (by omega) (by omega))) ?_
        refine TL.val rfl rfl (Nat.le_of_ble_eq_true rfl) (Val.fieldAddr rfl fl26_21 sz3 rfl) ?_
        refine TL.does none rfl rfl rfl (Does.store (i := 0) rfl rfl rfl sz3 rfl rfl (by first | exact Nat.le_of_ble_eq_true rfl | decide | omega) rfl rfl) ?_
        rintro _ _ ⟨rfl, rfl⟩
        refine TL.nil ?_
        refine AtX.then ?_
        refine TC.env (E' := [(2, _), (3, _), (4, _)]) (Sub.cons rfl (Sub.cons rfl (Sub.cons rfl (Sub.nil _)))) ?_
        refine TC.seq ?_
        refine TC.heap (M' := (b3, .cells #[.int .i64 (3 * a0 + 1 + a1), .int .i64 (a0), .int .i64 (1 + a2), .int .i64 (2 * a0 + 1 + a3), .int .i64 (1 + a4), .int .i64 (1 + a5), .int .i64 (1 + a6), .int .i64 (T0), .int .i64 (T1), .int .i64 (0), .int .i64 (0), .int .i64 (a9), .int .i64 (1 + a10), .int .i64 (1 + a10 + c10), .int .i64 (a11), .int .i64 (a12), .int .i64 (1 + a13), .int .i64 (1 + c13), .int .i64 (1 + a14), .int .i64 (1 + c14), .int .i64 (1 + a15), .int .i64 (a16), .int .i64 (1 + a17), .int .i64 (1 + c17), .int .i64 (64 + a18), .int .u64 (1)] 26 (0, 0)) :: (b4, .cells #[.int .i64 q0, .int .i64 q1, .int .i64 q2, .int .i64 q3, .int .i64 q4, .int .i64 q5, .int .i64 q6, .int .i64 q7, .int .i64 q8, .int .i64 q9, .int .i64 q10, .int .i64 q11, .int .i64 q12, .int .i64 q13, .int .i64 q14, .int .i64 q15, .int .i64 q16, .int .i64 q17, .int .i64 q18, .int .i64 q19] 83 (0, 0)) :: (b1, .cells #[.int .i64 (0), .int .i64 (0), .int .i64 (0), .int .i64 (0), .int .i64 (0), .int .i64 (0), .int .i64 (0), .int .i64 (0), .int .i64 (0), .int .i64 (0), .int .i64 (0), .int .i64 (0), .int .i64 (0), .int .i64 (0), .int .i64 (0), .int .i64 (0), .int .i64 (0), .int .i64 (0), .int .i64 (0), .int .i64 (0), .int .i64 (0), .int .i64 (0), .int .i64 (0), .int .i64 (0), .int .i64 (0), .int .u64 (0)] 26 (0, 0)) :: M) (fun w h => h) ?_
        refine TC.region ?_
        refine TL.val rfl rfl (Nat.le_of_ble_eq_true rfl) (Val.indexAddrA (i := 19) rfl rfl ar83 sz3 rfl (by first | decide | omega) rfl) ?_
        refine TL.val rfl rfl (Nat.le_of_ble_eq_true rfl) (Val.load 1 rfl ag3 rfl rfl) ?_
        refine TL.val rfl rfl (Nat.le_of_ble_eq_true rfl) (Val.convI rfl iu3 in24 (w_u64 (by omega) (by omega))) ?_
        refine TL.val rfl rfl (Nat.le_of_ble_eq_true rfl) (Val.fieldAddr rfl fl26_22 sz24 rfl) ?_
        refine TL.does none rfl rfl rfl (Does.store (i := 0) rfl rfl rfl sz24 rfl rfl (by first | exact Nat.le_of_ble_eq_true rfl | decide | omega) rfl rfl) ?_
        rintro _ _ ⟨rfl, rfl⟩
        refine TL.nil ?_
        refine AtX.then ?_
        refine TC.env (E' := [(2, _), (3, _)]) (Sub.cons rfl (Sub.cons rfl (Sub.nil _))) ?_
        refine TC.seq ?_
        refine TC.heap (M' := (b3, .cells #[.int .i64 (3 * a0 + 1 + a1), .int .i64 (a0), .int .i64 (1 + a2), .int .i64 (2 * a0 + 1 + a3), .int .i64 (1 + a4), .int .i64 (1 + a5), .int .i64 (1 + a6), .int .i64 (T0), .int .i64 (T1), .int .i64 (0), .int .i64 (0), .int .i64 (a9), .int .i64 (1 + a10), .int .i64 (1 + a10 + c10), .int .i64 (a11), .int .i64 (a12), .int .i64 (1 + a13), .int .i64 (1 + c13), .int .i64 (1 + a14), .int .i64 (1 + c14), .int .i64 (1 + a15), .int .i64 (a16), .int .i64 (1 + a17), .int .i64 (1 + c17), .int .i64 (64 + a18), .int .u64 (q19)] 26 (0, 0)) :: (b4, .cells #[.int .i64 q0, .int .i64 q1, .int .i64 q2, .int .i64 q3, .int .i64 q4, .int .i64 q5, .int .i64 q6, .int .i64 q7, .int .i64 q8, .int .i64 q9, .int .i64 q10, .int .i64 q11, .int .i64 q12, .int .i64 q13, .int .i64 q14, .int .i64 q15, .int .i64 q16, .int .i64 q17, .int .i64 q18, .int .i64 q19] 83 (0, 0)) :: (b1, .cells #[.int .i64 (0), .int .i64 (0), .int .i64 (0), .int .i64 (0), .int .i64 (0), .int .i64 (0), .int .i64 (0), .int .i64 (0), .int .i64 (0), .int .i64 (0), .int .i64 (0), .int .i64 (0), .int .i64 (0), .int .i64 (0), .int .i64 (0), .int .i64 (0), .int .i64 (0), .int .i64 (0), .int .i64 (0), .int .i64 (0), .int .i64 (0), .int .i64 (0), .int .i64 (0), .int .i64 (0), .int .i64 (0), .int .u64 (0)] 26 (0, 0)) :: M) (fun w h => h) ?_
        refine TC.region ?_
        refine TL.val rfl rfl (Nat.le_of_ble_eq_true rfl) (Val.loadAgg (vs := [.int .i64 (3 * a0 + 1 + a1), .int .i64 (a0), .int .i64 (1 + a2), .int .i64 (2 * a0 + 1 + a3), .int .i64 (1 + a4), .int .i64 (1 + a5), .int .i64 (1 + a6), .int .i64 (T0), .int .i64 (T1), .int .i64 (0), .int .i64 (0), .int .i64 (a9), .int .i64 (1 + a10), .int .i64 (1 + a10 + c10), .int .i64 (a11), .int .i64 (a12), .int .i64 (1 + a13), .int .i64 (1 + c13), .int .i64 (1 + a14), .int .i64 (1 + c14), .int .i64 (1 + a15), .int .i64 (a16), .int .i64 (1 + a17), .int .i64 (1 + c17), .int .i64 (64 + a18), .int .u64 (q19)]) 0 rfl ag26 sz26 rfl rfl rfl) ?_
        refine TL.does none rfl rfl rfl (Does.storeR (ys' := [.int .i64 (3 * a0 + 1 + a1), .int .i64 (a0), .int .i64 (1 + a2), .int .i64 (2 * a0 + 1 + a3), .int .i64 (1 + a4), .int .i64 (1 + a5), .int .i64 (1 + a6), .int .i64 (T0), .int .i64 (T1), .int .i64 (0), .int .i64 (0), .int .i64 (a9), .int .i64 (1 + a10), .int .i64 (1 + a10 + c10), .int .i64 (a11), .int .i64 (a12), .int .i64 (1 + a13), .int .i64 (1 + c13), .int .i64 (1 + a14), .int .i64 (1 + c14), .int .i64 (1 + a15), .int .i64 (a16), .int .i64 (1 + a17), .int .i64 (1 + c17), .int .i64 (64 + a18), .int .u64 (q19)]) 2 rfl rfl rfl sz26 rfl rfl (by exact Nat.le_of_ble_eq_true rfl) rfl) ?_
        rintro _ _ ⟨rfl, rfl⟩
        refine TL.nil ?_
        refine AtX.then ?_
        refine TC.env (E' := [(2, _)]) (Sub.cons rfl (Sub.nil _)) ?_
        refine TC.ret1 (fn := Try.f11) (fun _ _ h => h) rfl (RV.agg (i := 2) rfl ag26 sz26 rfl rfl rfl) (M' := M) (by repeat (first | exact ro_refl | exact ro_pre | refine ro_tail ?_ | refine ro_app ?_)) ?_
        refine ⟨⟨3 * a0 + 1 + a1, a0, 1 + a2, 2 * a0 + 1 + a3, 1 + a4, 1 + a5, 1 + a6, T0, T1, 0, 0, a9, 1 + a10, 1 + a10 + c10, a11, a12, 1 + a13, 1 + c13, 1 + a14, 1 + c14, 1 + a15, a16, 1 + a17, 1 + c17, 64 + a18, q19⟩, rfl, ?_, rfl⟩
        exact fit_fin ga0 la0 ga1 la1 ga2 la2 ga3 la3 ga4 la4 ga5 la5 ga6 la6 ga9 la9 ga10 la10 ga11 la11 ga12 la12 ga13 la13 ga14 la14 ga15 la15 ga16 la16 ga17 la17 ga18 la18 gc10 lc10 gc13 lc13 gc14 lc14 gc17 lc17 hT0b hT1b hq19

end Go.Proofs.Ytphoapajlcaoeaa
