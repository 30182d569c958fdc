/- walks -/
import Derived.Test.YtphoapajlcaoeaaA15
import Derived.Test.YtphoapajlcaoeaaES9
import Derived.Test.YtphoapajlcaoeaaE9d
set_option linter.unusedVariables false
set_option linter.unusedSimpArgs false
set_option maxRecDepth 100000
set_option maxHeartbeats 4000000
namespace Go.Proofs.Ytphoapajlcaoeaa
open Go Go.X
/-- (*quorumite/adverse.World).Sample$1 -/
theorem clo51_fn (p1 p2 p3 i1 i2 i3 : Nat) (k me e : Int) (M : Hp) (h1 : M[i1]? = some (p1, .cells #[.int .i64 k] 3 (0, 0))) (h2 : M[i2]? = some (p2, .cells #[.int .i64 me] 3 (0, 0))) (h3 : M[i3]? = some (p3, .cells #[.int .i64 e] 2 (0, 0))) (x : Smp) : FnC Try.prog 51 #[.agg #[.int .i64 x.who, .int .i64 x.metric, .int .i64 x.epoch, .int .i64 x.value], .pointer (some ⟨p1, 0, none⟩), .pointer (some ⟨p2, 0, none⟩), .pointer (some ⟨p3, 0, none⟩)] M (fun v M' => v = .bool (sameS x k me e) ∧ M = M') := by
  refine FnC.intro Try.func51 rfl 22 rfl (by simp) (fun z => ?_)
  refine TC.env (E' := [(0, _), (1, _), (2, _), (3, _)]) (Sub.cons rfl (Sub.cons rfl (Sub.cons rfl (Sub.cons rfl (Sub.nil _))))) ?_
  refine TC.seq ?_
  refine TC.region ?_
  refine TL.does (some 4) rfl rfl rfl (Does.box rfl rfl) ?_
  rintro _ _ ⟨b1, rfl, rfl⟩
  refine TL.val rfl rfl (Nat.le_of_ble_eq_true rfl) (Val.assign rfl) ?_
  refine TL.nil ?_
  refine AtX.then ?_
  refine TC.env (E' := [(1, _), (2, _), (3, _), (4, _), (5, _)]) (Sub.cons rfl (Sub.cons rfl (Sub.cons rfl (Sub.cons rfl (Sub.cons rfl (Sub.nil _)))))) ?_
  refine TC.seq ?_
  refine TC.region ?_
  refine TL.val rfl rfl (Nat.le_of_ble_eq_true rfl) (Val.fieldAddr rfl fl100_0 sz3 rfl) ?_
  first
    | refine TL.val rfl rfl (Nat.le_of_ble_eq_true rfl) (Val.load 0 rfl ag3 rfl rfl) ?_
    | refine TL.val rfl rfl (Nat.le_of_ble_eq_true rfl) (Val.load 1 rfl ag3 rfl rfl) ?_
    | refine TL.val rfl rfl (Nat.le_of_ble_eq_true rfl) (Val.load 2 rfl ag3 rfl rfl) ?_
    | refine TL.val rfl rfl (Nat.le_of_ble_eq_true rfl) (Val.load 3 rfl ag3 rfl rfl) ?_
    | refine TL.val rfl rfl (Nat.le_of_ble_eq_true rfl) (Val.load 4 rfl ag3 rfl rfl) ?_
    | refine TL.val rfl rfl (Nat.le_of_ble_eq_true rfl) (Val.load 5 rfl ag3 rfl rfl) ?_
  refine TL.val rfl rfl (Nat.le_of_ble_eq_true rfl) (Val.load (i1 + 1) rfl ag3 h1 rfl) ?_
  refine TL.val rfl rfl (Nat.le_of_ble_eq_true rfl) (Val.eqlI rfl rfl) ?_
  refine TL.val rfl rfl (Nat.le_of_ble_eq_true rfl) (Val.move rfl) ?_
  refine TL.gen (fun g2 hg2 => ?_)
  refine TL.gval rfl rfl (Nat.le_of_ble_eq_true rfl) rfl (Nat.le_of_ble_eq_true rfl) rfl (fun hg => by subst hg; exact (Val.fieldAddr rfl fl100_1 sz3 rfl)) ?_
  first
    | refine TL.gval rfl rfl (Nat.le_of_ble_eq_true rfl) rfl (Nat.le_of_ble_eq_true rfl) rfl (fun hg => by subst hg; exact (Val.load 0 rfl ag3 rfl rfl)) ?_
    | refine TL.gval rfl rfl (Nat.le_of_ble_eq_true rfl) rfl (Nat.le_of_ble_eq_true rfl) rfl (fun hg => by subst hg; exact (Val.load 1 rfl ag3 rfl rfl)) ?_
    | refine TL.gval rfl rfl (Nat.le_of_ble_eq_true rfl) rfl (Nat.le_of_ble_eq_true rfl) rfl (fun hg => by subst hg; exact (Val.load 2 rfl ag3 rfl rfl)) ?_
    | refine TL.gval rfl rfl (Nat.le_of_ble_eq_true rfl) rfl (Nat.le_of_ble_eq_true rfl) rfl (fun hg => by subst hg; exact (Val.load 3 rfl ag3 rfl rfl)) ?_
    | refine TL.gval rfl rfl (Nat.le_of_ble_eq_true rfl) rfl (Nat.le_of_ble_eq_true rfl) rfl (fun hg => by subst hg; exact (Val.load 4 rfl ag3 rfl rfl)) ?_
    | refine TL.gval rfl rfl (Nat.le_of_ble_eq_true rfl) rfl (Nat.le_of_ble_eq_true rfl) rfl (fun hg => by subst hg; exact (Val.load 5 rfl ag3 rfl rfl)) ?_
  refine TL.gval rfl rfl (Nat.le_of_ble_eq_true rfl) rfl (Nat.le_of_ble_eq_true rfl) rfl (fun hg => by subst hg; exact (Val.load (i2 + 1) rfl ag3 h2 rfl)) ?_
  refine TL.gval rfl rfl (Nat.le_of_ble_eq_true rfl) rfl (Nat.le_of_ble_eq_true rfl) rfl (fun hg => by subst hg; exact (Val.eqlI rfl rfl)) ?_
  first
    | refine TL.val rfl rfl (Nat.le_of_ble_eq_true rfl) (Val.pickAnd rfl rfl rfl) ?_
    | refine TL.val rfl rfl (Nat.le_of_ble_eq_true rfl) (Val.pickOr rfl rfl rfl) ?_
    | refine TL.val rfl rfl (Nat.le_of_ble_eq_true rfl) (Val.pick rfl rfl rfl) ?_
  refine TL.val rfl rfl (Nat.le_of_ble_eq_true rfl) (Val.move rfl) ?_
  refine TL.gen (fun g3 hg3 => ?_)
  refine TL.gval rfl rfl (Nat.le_of_ble_eq_true rfl) rfl (Nat.le_of_ble_eq_true rfl) rfl (fun hg => by subst hg; exact (Val.fieldAddr rfl fl100_2 sz2 rfl)) ?_
  first
    | refine TL.gval rfl rfl (Nat.le_of_ble_eq_true rfl) rfl (Nat.le_of_ble_eq_true rfl) rfl (fun hg => by subst hg; exact (Val.load 0 rfl ag2 rfl rfl)) ?_
    | refine TL.gval rfl rfl (Nat.le_of_ble_eq_true rfl) rfl (Nat.le_of_ble_eq_true rfl) rfl (fun hg => by subst hg; exact (Val.load 1 rfl ag2 rfl rfl)) ?_
    | refine TL.gval rfl rfl (Nat.le_of_ble_eq_true rfl) rfl (Nat.le_of_ble_eq_true rfl) rfl (fun hg => by subst hg; exact (Val.load 2 rfl ag2 rfl rfl)) ?_
    | refine TL.gval rfl rfl (Nat.le_of_ble_eq_true rfl) rfl (Nat.le_of_ble_eq_true rfl) rfl (fun hg => by subst hg; exact (Val.load 3 rfl ag2 rfl rfl)) ?_
    | refine TL.gval rfl rfl (Nat.le_of_ble_eq_true rfl) rfl (Nat.le_of_ble_eq_true rfl) rfl (fun hg => by subst hg; exact (Val.load 4 rfl ag2 rfl rfl)) ?_
    | refine TL.gval rfl rfl (Nat.le_of_ble_eq_true rfl) rfl (Nat.le_of_ble_eq_true rfl) rfl (fun hg => by subst hg; exact (Val.load 5 rfl ag2 rfl rfl)) ?_
  refine TL.gval rfl rfl (Nat.le_of_ble_eq_true rfl) rfl (Nat.le_of_ble_eq_true rfl) rfl (fun hg => by subst hg; exact (Val.load (i3 + 1) rfl ag2 h3 rfl)) ?_
  refine TL.gval rfl rfl (Nat.le_of_ble_eq_true rfl) rfl (Nat.le_of_ble_eq_true rfl) rfl (fun hg => by subst hg; exact (Val.eqlI rfl rfl)) ?_
  first
    | refine TL.val rfl rfl (Nat.le_of_ble_eq_true rfl) (Val.pickAnd rfl rfl rfl) ?_
    | refine TL.val rfl rfl (Nat.le_of_ble_eq_true rfl) (Val.pickOr rfl rfl rfl) ?_
    | refine TL.val rfl rfl (Nat.le_of_ble_eq_true rfl) (Val.pick rfl rfl rfl) ?_
  refine TL.val rfl rfl (Nat.le_of_ble_eq_true rfl) (Val.assign rfl) ?_
  refine TL.nil ?_
  refine AtX.then ?_
  refine TC.env (E' := [(5, _)]) (Sub.cons rfl (Sub.nil _)) ?_
  refine TC.ret1 (fn := Try.f51) (fun _ _ h => h) rfl (RV.tmp rfl) (M' := M) (by repeat (first | exact ro_refl | exact ro_pre | refine ro_tail ?_ | refine ro_app ?_)) ?_
  refine ⟨?_, rfl⟩
  subst_vars
  rfl

/-- slices.IndexFunc[[]quorumite/api.Sample,quorumite/api.Sample] -/
theorem IndexFunc_fn (p1 p2 p3 i1 i2 i3 : Nat) (k me e : Int) (M : Hp) (h1 : M[i1]? = some (p1, .cells #[.int .i64 k] 3 (0, 0))) (h2 : M[i2]? = some (p2, .cells #[.int .i64 me] 3 (0, 0))) (h3 : M[i3]? = some (p3, .cells #[.int .i64 e] 2 (0, 0))) (kept : List Smp) (A : Option Addr) (nn cc : Nat) (hA : RdS M A (kept.flatMap Smp.cs)) (hn : nn = kept.length) (hl : kept.length ≤ 1000) : FnC Try.prog 86 #[.slice A nn cc, .func (.func 51) #[] #[.pointer (some ⟨p1, 0, none⟩), .pointer (some ⟨p2, 0, none⟩), .pointer (some ⟨p3, 0, none⟩)]] M (fun v M' => ∃ r : Int, v = .int .i64 r ∧ decide (0 ≤ r) = kept.any (fun x => sameS x k me e) ∧ M = M') := by
  subst hn
  refine FnC.intro Try.func86 rfl 19 rfl (by simp) (fun z => ?_)
  refine TC.env (E' := [(0, _), (1, _)]) (Sub.cons rfl (Sub.cons rfl (Sub.nil _))) ?_
  refine TC.seq ?_
  refine TC.region ?_
  refine TL.val rfl rfl (Nat.le_of_ble_eq_true rfl) (Val.assign rfl) ?_
  refine TL.nil ?_
  refine AtX.then ?_
  refine TC.seq ?_
  refine TC.seq ?_
  refine TC.region ?_
  refine TL.val rfl rfl (Nat.le_of_ble_eq_true rfl) (Val.move rfl) ?_
  refine TL.val rfl rfl (Nat.le_of_ble_eq_true rfl) (Val.lenSl rfl rfl sl87) ?_
  refine TL.val rfl rfl (Nat.le_of_ble_eq_true rfl) (Val.move rfl) ?_
  refine TL.nil ?_
  refine AtX.then ?_
  refine TC.env (E' := [(0, _), (1, _), (4, _), (7, _), (8, _)]) (Sub.cons rfl (Sub.cons rfl (Sub.cons rfl (Sub.cons rfl (Sub.cons rfl (Sub.nil _)))))) ?_
  refine TC.block ?_
  refine TC.loop (ι := Nat) (fun j => [(0, .slice A kept.length cc), (1, .func (.func 51) #[] #[.pointer (some ⟨p1, 0, none⟩), .pointer (some ⟨p2, 0, none⟩), .pointer (some ⟨p3, 0, none⟩)]), (7, .int .i64 (kept.length : Nat)), (8, .int .i64 (j : Nat))]) (fun _ => M) (fun j => j ≤ kept.length ∧ ∀ x ∈ kept.take j, sameS x k me e = false) (fun j => kept.length - j) 0 ?_ (Sub.cons rfl (Sub.cons rfl (Sub.cons rfl (Sub.cons rfl (Sub.nil _))))) (fun _ h => h) ?_
  · exact ⟨Nat.zero_le _, by simp⟩
  rintro j ⟨hj, hI⟩
  refine TC.seq ?_
  refine TC.region ?_
  refine TL.val rfl rfl (Nat.le_of_ble_eq_true rfl) (Val.lss rfl rfl) ?_
  refine TL.nil ?_
  refine AtX.then ?_
  refine TC.seq ?_
  first | refine TC.condP rfl (fun c1 => ?_) (fun c1 => ?_) | refine TC.condN rfl (fun c1 => ?_) (fun c1 => ?_) | refine TC.condB rfl (fun c1 => ?_) (fun c1 => ?_) | refine TC.cond rfl (fun c1 => ?_) (fun c1 => ?_)
  · skip
    refine TC.skip ?_
    refine AtX.then ?_
    refine TC.seq ?_
    refine TC.block ?_
    refine TC.seq ?_
    refine TC.region ?_
    refine TL.val rfl rfl (Nat.le_of_ble_eq_true rfl) (Val.move rfl) ?_
    refine TL.val rfl rfl (Nat.le_of_ble_eq_true rfl) (Val.assign rfl) ?_
    refine TL.nil ?_
    refine AtX.then ?_
    refine TC.seq ?_
    have hlt : j < kept.length := by omega
    obtain ⟨x, hx⟩ : ∃ x, kept[j]? = some x := ⟨_, List.getElem?_eq_getElem hlt⟩
    obtain ⟨bA, oA, rfl, hR⟩ := RdS.get hA (by rw [flat_len Smp.cs_len]; omega)
    refine TC.region ?_
    refine TL.val rfl rfl (Nat.le_of_ble_eq_true rfl) (Val.move rfl) ?_
    refine TL.val rfl rfl (Nat.le_of_ble_eq_true rfl) (Val.move rfl) ?_
    refine TL.val rfl rfl (Nat.le_of_ble_eq_true rfl) (Val.move rfl) ?_
    refine TL.val rfl rfl (Nat.le_of_ble_eq_true rfl) (Val.indexAddr (i := j) (r := oA + 4 * j) rfl rfl sl87 sz100 rfl hlt (by omega)) ?_
    refine TL.val rfl rfl (Nat.le_of_ble_eq_true rfl) (Val.loadAggR (o := oA) (j := 4 * j) (vs := x.cs) rfl ag100 sz100 hR rfl (flat_seg Smp.cs_len hx) rfl) ?_
    refine TL.does (some 16) rfl rfl rfl (Does.callC (cap := [.pointer (some ⟨p1, 0, none⟩), .pointer (some ⟨p2, 0, none⟩), .pointer (some ⟨p3, 0, none⟩)]) rfl go51 rfl (clo51_fn p1 p2 p3 i1 i2 i3 k me e _ h1 h2 h3 x)) ?_
    rintro _ _ ⟨rfl, rfl⟩
    refine TL.nil ?_
    refine AtX.then ?_
    first | refine TC.condP rfl (fun c2 => ?_) (fun c2 => ?_) | refine TC.condN rfl (fun c2 => ?_) (fun c2 => ?_) | refine TC.condB rfl (fun c2 => ?_) (fun c2 => ?_) | refine TC.cond rfl (fun c2 => ?_) (fun c2 => ?_)
    · skip
      refine TC.seq ?_
      refine TC.region ?_
      refine TL.val rfl rfl (Nat.le_of_ble_eq_true rfl) (Val.move rfl) ?_
      refine TL.val rfl rfl (Nat.le_of_ble_eq_true rfl) (Val.assign rfl) ?_
      refine TL.nil ?_
      refine AtX.then ?_
      refine TC.ret1 (fn := Try.f86) (fun _ _ h => h) rfl (RV.tmp rfl) (fun _ h => h) ?_
      refine ⟨_, rfl, ?_, rfl⟩
      first | exact any_t (f := fun x => sameS x k me e) hx c2 | exact any_f hI (by omega)
    · skip
      refine TC.skip ?_
      refine AtX.blk ?_
      refine AtX.then ?_
      refine TC.region ?_
      first
        | refine TL.val rfl rfl (Nat.le_of_ble_eq_true rfl) (Val.add rfl rfl (w_i64 (by omega) (by omega))) ?_
        | refine TL.val rfl rfl (Nat.le_of_ble_eq_true rfl) (Val.add rfl rfl rfl) ?_
      refine TL.val rfl rfl (Nat.le_of_ble_eq_true rfl) (Val.move rfl) ?_
      refine TL.nil ?_
      refine AtX.round (j + 1) ?_ ?_ (Sub.cons rfl (Sub.cons rfl (Sub.cons rfl (Sub.cons rfl (Sub.nil _))))) (fun _ h => h)
      · exact ⟨by omega, take_no (f := fun x => sameS x k me e) hI hx (by simpa using c2)⟩
      · omega
  · skip
    refine TC.exit ?_
    refine AtX.seqX ?_
    refine AtX.seqX ?_
    refine AtX.hit ?_
    refine AtX.then ?_
    refine TC.env (E' := []) (Sub.nil _) ?_
    refine TC.seq ?_
    refine TC.region ?_
    refine TL.val rfl rfl (Nat.le_of_ble_eq_true rfl) (Val.assign rfl) ?_
    refine TL.nil ?_
    refine AtX.then ?_
    refine TC.env (E' := [(4, _)]) (Sub.cons rfl (Sub.nil _)) ?_
    refine TC.ret1 (fn := Try.f86) (fun _ _ h => h) rfl (RV.tmp rfl) (fun _ h => h) ?_
    refine ⟨_, rfl, ?_, rfl⟩
    first | exact any_t (f := fun x => sameS x k me e) hx c2 | exact any_f hI (by omega)

/-- slices.ContainsFunc[[]quorumite/api.Sample,quorumite/api.Sample] -/
theorem Contains_fn (p1 p2 p3 i1 i2 i3 : Nat) (k me e : Int) (M : Hp) (h1 : M[i1]? = some (p1, .cells #[.int .i64 k] 3 (0, 0))) (h2 : M[i2]? = some (p2, .cells #[.int .i64 me] 3 (0, 0))) (h3 : M[i3]? = some (p3, .cells #[.int .i64 e] 2 (0, 0))) (kept : List Smp) (A : Option Addr) (nn cc : Nat) (hA : RdS M A (kept.flatMap Smp.cs)) (hn : nn = kept.length) (hl : kept.length ≤ 1000) : FnC Try.prog 50 #[.slice A nn cc, .func (.func 51) #[] #[.pointer (some ⟨p1, 0, none⟩), .pointer (some ⟨p2, 0, none⟩), .pointer (some ⟨p3, 0, none⟩)]] M (fun v M' => v = .bool (kept.any (fun x => sameS x k me e)) ∧ M = M') := by
  refine FnC.intro Try.func50 rfl 9 rfl (by simp) (fun z => ?_)
  refine TC.env (E' := [(0, _), (1, _)]) (Sub.cons rfl (Sub.cons rfl (Sub.nil _))) ?_
  refine TC.seq ?_
  refine TC.region ?_
  refine TL.val rfl rfl (Nat.le_of_ble_eq_true rfl) (Val.assign rfl) ?_
  refine TL.nil ?_
  refine AtX.then ?_
  refine TC.seq ?_
  refine TC.region ?_
  refine TL.val rfl rfl (Nat.le_of_ble_eq_true rfl) (Val.move rfl) ?_
  refine TL.val rfl rfl (Nat.le_of_ble_eq_true rfl) (Val.move rfl) ?_
  refine TL.does (some 7) rfl rfl rfl (Does.callF go86 rfl (IndexFunc_fn p1 p2 p3 i1 i2 i3 k me e _ h1 h2 h3 kept A nn cc hA hn hl)) ?_
  rintro _ _ ⟨r, rfl, hr, rfl⟩
  refine TL.val rfl rfl (Nat.le_of_ble_eq_true rfl) (Val.geq rfl rfl) ?_
  refine TL.val rfl rfl (Nat.le_of_ble_eq_true rfl) (Val.assign rfl) ?_
  refine TL.nil ?_
  refine AtX.then ?_
  refine TC.env (E' := [(4, _)]) (Sub.cons rfl (Sub.nil _)) ?_
  refine TC.ret1 (fn := Try.f50) (fun _ _ h => h) rfl (RV.tmp rfl) (fun _ h => h) ?_
  exact ⟨by rw [← hr], rfl⟩

/-- (*quorumite/adverse.World).Sample -/
theorem wSample_ok (b bl cl bb : Nat) (c : Cf) (σ : Sl) (kept : List Smp) (n : Int) (l : List Bool) (ps spl : List Value) (jb jl js : Nat) (H0 : Hp) (hb : H0[jb]? = some (bb, row 4 (l.map Value.bool))) (hl : H0[jl]? = some (bl, row 57 (ps ++ spl))) (hpl : ps.length = l.length) (sb k : Nat) (s g q : Int) (hp : ps[k]? = some (.pointer (some ⟨sb, 0, none⟩))) (hs : H0[js]? = some (sobj sb s (k : Nat) g q)) (hok : slOk σ 4 kept.length (kept.flatMap Smp.cs)) (hkl : kept.length ≤ 1000) (hn : 0 ≤ n ∧ n ≤ 1000000) (me e v : Int) (hm : mayM ⟨1, (k : Nat), g, q + 1, e, v, me⟩ = true) (hx : l[k]? = some false) (hno : kept.any (fun x => sameS x (k : Nat) me e) = false) : FnC Try.prog 16 #[.pointer (some ⟨b, 0, none⟩), .int .i64 ((k : Nat) : Int), .int .i64 me, .int .i64 e, .int .i64 v] (wob b c (some ⟨bl, 0, none⟩) ps.length cl bb l.length σ kept.length n :: (slH σ 100 (kept.flatMap Smp.cs) ++ H0)) (fun u M' => ∃ bE c' sp σ', u = .tuple #[.slice (some ⟨bE, 0, none⟩) 48 c', .int .i64 0] ∧ slOk σ' 4 (kept.length + 1) ((kept.flatMap Smp.cs) ++ Smp.cs ⟨(k : Nat), me, e, v⟩) ∧ M' = (bE, row 5 (bv (sealB (macKey s (k : Nat) g) ⟨1, (k : Nat), g, q + 1, e, v, me⟩) ++ sp)) :: wob b c (some ⟨bl, 0, none⟩) ps.length cl bb l.length σ' (kept.length + 1) (n + 1) :: (slH σ' 100 ((kept.flatMap Smp.cs) ++ Smp.cs ⟨(k : Nat), me, e, v⟩) ++ H0.set js (sobj sb s (k : Nat) g (q + 1)))) := by
  have hk2 : k < ps.length := (List.getElem?_eq_some_iff.1 hp).1
  have hRl := rd_row0 hl
  have hRb := rd_rowA hb
  obtain ⟨qk, qw, qg, qs, qe, qme, qv⟩ := mayM_iff.1 hm
  simp only at qk qw qg qs qe qme qv
  have hRk : RdS (slH σ 100 (kept.flatMap Smp.cs) ++ H0) (slA σ) (kept.flatMap Smp.cs) := rdS_opt hok
  refine FnC.intro Try.func16 rfl 78 rfl (by simp) (fun z => ?_)
  refine TC.env (E' := [(0, _), (1, _), (2, _), (3, _), (4, _)]) (Sub.cons rfl (Sub.cons rfl (Sub.cons rfl (Sub.cons rfl (Sub.cons rfl (Sub.nil _)))))) ?_
  refine TC.seq ?_
  refine TC.region ?_
  refine TL.does (some 6) rfl rfl rfl (Does.box rfl rfl) ?_
  rintro _ _ ⟨b1, rfl, rfl⟩
  refine TL.does (some 7) rfl rfl rfl (Does.box rfl rfl) ?_
  rintro _ _ ⟨b2, rfl, rfl⟩
  refine TL.does (some 8) rfl rfl rfl (Does.box rfl rfl) ?_
  rintro _ _ ⟨b3, rfl, rfl⟩
  refine TL.val rfl rfl (Nat.le_of_ble_eq_true rfl) (Val.assign rfl) ?_
  refine TL.val rfl rfl (Nat.le_of_ble_eq_true rfl) (Val.assign rfl) ?_
  refine TL.nil ?_
  refine AtX.then ?_
  refine TC.env (E' := [(0, _), (4, _), (6, _), (7, _), (8, _), (10, _), (11, _)]) (Sub.cons rfl (Sub.cons rfl (Sub.cons rfl (Sub.cons rfl (Sub.cons rfl (Sub.cons rfl (Sub.cons rfl (Sub.nil _)))))))) ?_
  refine TC.seq ?_
  refine TC.seq ?_
  refine TC.region ?_
  refine TL.val rfl rfl (Nat.le_of_ble_eq_true rfl) (Val.move rfl) ?_
  first
    | refine TL.val rfl rfl (Nat.le_of_ble_eq_true rfl) (Val.load 0 rfl ag3 rfl rfl) ?_
    | refine TL.val rfl rfl (Nat.le_of_ble_eq_true rfl) (Val.load 1 rfl ag3 rfl rfl) ?_
    | refine TL.val rfl rfl (Nat.le_of_ble_eq_true rfl) (Val.load 2 rfl ag3 rfl rfl) ?_
    | refine TL.val rfl rfl (Nat.le_of_ble_eq_true rfl) (Val.load 3 rfl ag3 rfl rfl) ?_
    | refine TL.val rfl rfl (Nat.le_of_ble_eq_true rfl) (Val.load 4 rfl ag3 rfl rfl) ?_
    | refine TL.val rfl rfl (Nat.le_of_ble_eq_true rfl) (Val.load 5 rfl ag3 rfl rfl) ?_
  refine TL.does (some 16) rfl rfl rfl (Does.callF go46 rfl (has_ok b 3 c _ ps.length cl bb l.length σ kept.length n _ rfl k hk2)) ?_
  rintro _ _ ⟨rfl, rfl⟩
  refine TL.val rfl rfl (Nat.le_of_ble_eq_true rfl) (Val.assign rfl) ?_
  refine TL.nil ?_
  refine AtX.then ?_
  refine TC.env (E' := [(0, _), (4, _), (6, _), (7, _), (8, _), (10, _), (11, _), (12, _)]) (Sub.cons rfl (Sub.cons rfl (Sub.cons rfl (Sub.cons rfl (Sub.cons rfl (Sub.cons rfl (Sub.cons rfl (Sub.cons rfl (Sub.nil _))))))))) ?_
  refine TC.seq ?_
  refine TC.region ?_
  refine TL.val rfl rfl (Nat.le_of_ble_eq_true rfl) (Val.move rfl) ?_
  refine TL.val rfl rfl (Nat.le_of_ble_eq_true rfl) (Val.neqI rfl rfl) ?_
  refine TL.nil ?_
  refine AtX.then ?_
  refine TC.env (E' := [(0, _), (4, _), (6, _), (7, _), (8, _), (10, _), (11, _), (12, _), (18, _)]) (Sub.cons rfl (Sub.cons rfl (Sub.cons rfl (Sub.cons rfl (Sub.cons rfl (Sub.cons rfl (Sub.cons rfl (Sub.cons rfl (Sub.cons rfl (Sub.nil _)))))))))) ?_
  first | refine TC.condP rfl (fun c1 => ?_) (fun c1 => ?_) | refine TC.condN rfl (fun c1 => ?_) (fun c1 => ?_) | refine TC.condB rfl (fun c1 => ?_) (fun c1 => ?_) | refine TC.cond rfl (fun c1 => ?_) (fun c1 => ?_)
  · skip
    exact absurd rfl c1
  · skip
    refine TC.env (E' := [(0, _), (4, _), (6, _), (7, _), (8, _), (10, _), (11, _)]) (Sub.cons rfl (Sub.cons rfl (Sub.cons rfl (Sub.cons rfl (Sub.cons rfl (Sub.cons rfl (Sub.cons rfl (Sub.nil _)))))))) ?_
    refine TC.skip ?_
    refine AtX.then ?_
    refine TC.env (E' := [(0, _), (4, _), (6, _), (7, _), (8, _), (10, _), (11, _)]) (Sub.cons rfl (Sub.cons rfl (Sub.cons rfl (Sub.cons rfl (Sub.cons rfl (Sub.cons rfl (Sub.cons rfl (Sub.nil _)))))))) ?_
    refine TC.seq ?_
    refine TC.drawLM mixed 8 ?_
    refine TA.tk 0 1 rfl rfl rfl (Val.move rfl) ?_
    refine TA.tk 1 3 rfl rfl rfl (Val.nilCheck rfl) ?_
    refine TA.tk 2 7 rfl rfl rfl (Val.fieldAddr rfl fl94_1 sz86 rfl) ?_
    first
      | refine TA.tk 3 15 rfl rfl rfl (Val.load 0 rfl ag86 rfl rfl) ?_
      | refine TA.tk 3 15 rfl rfl rfl (Val.load 1 rfl ag86 rfl rfl) ?_
      | refine TA.tk 3 15 rfl rfl rfl (Val.load 2 rfl ag86 rfl rfl) ?_
      | refine TA.tk 3 15 rfl rfl rfl (Val.load 3 rfl ag86 rfl rfl) ?_
      | refine TA.tk 3 15 rfl rfl rfl (Val.load 4 rfl ag86 rfl rfl) ?_
      | refine TA.tk 3 15 rfl rfl rfl (Val.load 5 rfl ag86 rfl rfl) ?_
    first
      | refine TA.tk 4 31 rfl rfl rfl (Val.load 0 rfl ag3 rfl rfl) ?_
      | refine TA.tk 4 31 rfl rfl rfl (Val.load 1 rfl ag3 rfl rfl) ?_
      | refine TA.tk 4 31 rfl rfl rfl (Val.load 2 rfl ag3 rfl rfl) ?_
      | refine TA.tk 4 31 rfl rfl rfl (Val.load 3 rfl ag3 rfl rfl) ?_
      | refine TA.tk 4 31 rfl rfl rfl (Val.load 4 rfl ag3 rfl rfl) ?_
      | refine TA.tk 4 31 rfl rfl rfl (Val.load 5 rfl ag3 rfl rfl) ?_
    refine TA.tk 5 63 rfl rfl rfl (Val.indexAddr (i := k) (r := k) rfl rfl sl86 sz57 rfl hk2 (by omega)) ?_
    refine TA.tk 6 127 rfl rfl rfl (Val.loadRd (o := 0) (j := k) rfl ag57 (Rd.cons _ (Rd.cons _ (Rd.cons _ (Rd.cons _ (Rd.app _ hRl))))) (by omega) hp) ?_
    refine TA.tk 7 255 rfl rfl rfl (Val.assign rfl) ?_
    refine TA.done (by kernel_rfl) ?_
    refine AtX.then ?_
    refine TC.env (E' := [(0, _), (4, _), (6, _), (7, _), (8, _), (10, _), (11, _), (13, _)]) (Sub.cons rfl (Sub.cons rfl (Sub.cons rfl (Sub.cons rfl (Sub.cons rfl (Sub.cons rfl (Sub.cons rfl (Sub.cons rfl (Sub.nil _))))))))) ?_
    refine TC.seq ?_
    refine TC.seq ?_
    refine TC.drawLM mixed 12 ?_
    first
      | refine TA.tk 0 1 rfl rfl rfl (Val.load 0 rfl ag3 rfl rfl) ?_
      | refine TA.tk 0 1 rfl rfl rfl (Val.load 1 rfl ag3 rfl rfl) ?_
      | refine TA.tk 0 1 rfl rfl rfl (Val.load 2 rfl ag3 rfl rfl) ?_
      | refine TA.tk 0 1 rfl rfl rfl (Val.load 3 rfl ag3 rfl rfl) ?_
      | refine TA.tk 0 1 rfl rfl rfl (Val.load 4 rfl ag3 rfl rfl) ?_
      | refine TA.tk 0 1 rfl rfl rfl (Val.load 5 rfl ag3 rfl rfl) ?_
    refine TA.tk 1 3 rfl rfl rfl (Val.move rfl) ?_
    refine TA.tk 3 11 rfl rfl rfl (Val.move rfl) ?_
    first
      | refine TA.tk 6 75 rfl rfl rfl (Val.load 0 rfl ag2 rfl rfl) ?_
      | refine TA.tk 6 75 rfl rfl rfl (Val.load 1 rfl ag2 rfl rfl) ?_
      | refine TA.tk 6 75 rfl rfl rfl (Val.load 2 rfl ag2 rfl rfl) ?_
      | refine TA.tk 6 75 rfl rfl rfl (Val.load 3 rfl ag2 rfl rfl) ?_
      | refine TA.tk 6 75 rfl rfl rfl (Val.load 4 rfl ag2 rfl rfl) ?_
      | refine TA.tk 6 75 rfl rfl rfl (Val.load 5 rfl ag2 rfl rfl) ?_
    refine TA.tk 7 203 rfl rfl rfl (Val.move rfl) ?_
    first
      | refine TA.tk 8 459 rfl rfl rfl (Val.load 0 rfl ag3 rfl rfl) ?_
      | refine TA.tk 8 459 rfl rfl rfl (Val.load 1 rfl ag3 rfl rfl) ?_
      | refine TA.tk 8 459 rfl rfl rfl (Val.load 2 rfl ag3 rfl rfl) ?_
      | refine TA.tk 8 459 rfl rfl rfl (Val.load 3 rfl ag3 rfl rfl) ?_
      | refine TA.tk 8 459 rfl rfl rfl (Val.load 4 rfl ag3 rfl rfl) ?_
      | refine TA.tk 8 459 rfl rfl rfl (Val.load 5 rfl ag3 rfl rfl) ?_
    refine TA.one 2 (by kernel_rfl) ?_
    refine TO.dz 463 (some 29) rfl rfl rfl rfl (Does.callF go48 rfl (Gen_fn sb _ s (k : Nat) g q _ (get_app4 hs))) ?_
    rintro _ _ ⟨rfl, rfl⟩
    refine roK ?_
    refine TA.one 4 (by kernel_rfl) ?_
    refine TO.dz 479 (some 31) rfl rfl rfl rfl (Does.callF go49 rfl (Seq_fn sb _ s (k : Nat) g q _ (get_app4 hs))) ?_
    rintro _ _ ⟨rfl, rfl⟩
    refine roK ?_
    refine TA.tk 5 511 rfl rfl rfl (Val.add rfl rfl (r := q + 1) (w_i64 (by omega) (by omega))) ?_
    refine TA.tk 9 1023 rfl rfl rfl (Val.buildS pl61 ze61 rfl rfl) ?_
    refine TA.one 10 (by kernel_rfl) ?_
    refine TO.dz 2047 (some 37) rfl rfl rfl rfl (Does.callF go47 rfl (May_true ⟨1, (k : Nat), g, q + 1, e, v, me⟩ _ hm)) ?_
    rintro _ _ ⟨rfl, rfl⟩
    refine roK ?_
    refine TA.tk 11 4095 rfl rfl rfl (Val.not rfl) ?_
    refine TA.done (by kernel_rfl) ?_
    refine AtX.then ?_
    refine TC.env (E' := [(0, _), (4, _), (6, _), (7, _), (8, _), (10, _), (11, _), (13, _), (38, _)]) (Sub.cons rfl (Sub.cons rfl (Sub.cons rfl (Sub.cons rfl (Sub.cons rfl (Sub.cons rfl (Sub.cons rfl (Sub.cons rfl (Sub.cons rfl (Sub.nil _)))))))))) ?_
    first | refine TC.condP rfl (fun c2 => ?_) (fun c2 => ?_) | refine TC.condN rfl (fun c2 => ?_) (fun c2 => ?_) | refine TC.condB rfl (fun c2 => ?_) (fun c2 => ?_) | refine TC.cond rfl (fun c2 => ?_) (fun c2 => ?_)
    · skip
      cases c2
    · skip
      refine TC.env (E' := [(0, _), (4, _), (6, _), (7, _), (8, _), (10, _), (11, _), (13, _)]) (Sub.cons rfl (Sub.cons rfl (Sub.cons rfl (Sub.cons rfl (Sub.cons rfl (Sub.cons rfl (Sub.cons rfl (Sub.cons rfl (Sub.nil _))))))))) ?_
      refine TC.skip ?_
      refine AtX.then ?_
      refine TC.env (E' := [(0, _), (4, _), (6, _), (7, _), (8, _), (10, _), (11, _), (13, _)]) (Sub.cons rfl (Sub.cons rfl (Sub.cons rfl (Sub.cons rfl (Sub.cons rfl (Sub.cons rfl (Sub.cons rfl (Sub.cons rfl (Sub.nil _))))))))) ?_
      refine TC.seq ?_
      refine TC.seq ?_
      refine TC.drawLM mixed 8 ?_
      refine TA.tk 0 1 rfl rfl rfl (Val.move rfl) ?_
      refine TA.tk 1 3 rfl rfl rfl (Val.nilCheck rfl) ?_
      refine TA.tk 2 7 rfl rfl rfl (Val.fieldAddr rfl fl94_2 sz85 rfl) ?_
      first
        | refine TA.tk 3 15 rfl rfl rfl (Val.load 0 rfl ag85 rfl rfl) ?_
        | refine TA.tk 3 15 rfl rfl rfl (Val.load 1 rfl ag85 rfl rfl) ?_
        | refine TA.tk 3 15 rfl rfl rfl (Val.load 2 rfl ag85 rfl rfl) ?_
        | refine TA.tk 3 15 rfl rfl rfl (Val.load 3 rfl ag85 rfl rfl) ?_
        | refine TA.tk 3 15 rfl rfl rfl (Val.load 4 rfl ag85 rfl rfl) ?_
        | refine TA.tk 3 15 rfl rfl rfl (Val.load 5 rfl ag85 rfl rfl) ?_
      first
        | refine TA.tk 4 31 rfl rfl rfl (Val.load 0 rfl ag3 rfl rfl) ?_
        | refine TA.tk 4 31 rfl rfl rfl (Val.load 1 rfl ag3 rfl rfl) ?_
        | refine TA.tk 4 31 rfl rfl rfl (Val.load 2 rfl ag3 rfl rfl) ?_
        | refine TA.tk 4 31 rfl rfl rfl (Val.load 3 rfl ag3 rfl rfl) ?_
        | refine TA.tk 4 31 rfl rfl rfl (Val.load 4 rfl ag3 rfl rfl) ?_
        | refine TA.tk 4 31 rfl rfl rfl (Val.load 5 rfl ag3 rfl rfl) ?_
      refine TA.tk 5 63 rfl rfl rfl (Val.indexAddr (i := k) (r := k) rfl rfl sl85 sz4 rfl (by omega) (by omega)) ?_
      refine TA.tk 6 127 rfl rfl rfl (Val.loadRd (o := 0) (j := k) (v := .bool false) rfl ag4 (Rd.cons _ (Rd.cons _ (Rd.cons _ (Rd.cons _ (Rd.app _ hRb))))) (by omega) (map_get hx)) ?_
      refine TA.tk 7 255 rfl rfl rfl (Val.not rfl) ?_
      refine TA.done (by kernel_rfl) ?_
      refine AtX.then ?_
      refine TC.env (E' := [(0, _), (4, _), (6, _), (7, _), (8, _), (10, _), (11, _), (13, _), (46, _)]) (Sub.cons rfl (Sub.cons rfl (Sub.cons rfl (Sub.cons rfl (Sub.cons rfl (Sub.cons rfl (Sub.cons rfl (Sub.cons rfl (Sub.cons rfl (Sub.nil _)))))))))) ?_
      first | refine TC.condP rfl (fun c3 => ?_) (fun c3 => ?_) | refine TC.condN rfl (fun c3 => ?_) (fun c3 => ?_) | refine TC.condB rfl (fun c3 => ?_) (fun c3 => ?_) | refine TC.cond rfl (fun c3 => ?_) (fun c3 => ?_)
      · skip
        refine TC.env (E' := [(0, _), (4, _), (6, _), (7, _), (8, _), (10, _), (11, _), (13, _)]) (Sub.cons rfl (Sub.cons rfl (Sub.cons rfl (Sub.cons rfl (Sub.cons rfl (Sub.cons rfl (Sub.cons rfl (Sub.cons rfl (Sub.nil _))))))))) ?_
        refine TC.seq ?_
        refine TC.seq ?_
        refine TC.region ?_
        refine TL.val rfl rfl (Nat.le_of_ble_eq_true rfl) (Val.move rfl) ?_
        refine TL.val rfl rfl (Nat.le_of_ble_eq_true rfl) (Val.nilCheck rfl) ?_
        refine TL.val rfl rfl (Nat.le_of_ble_eq_true rfl) (Val.fieldAddr rfl fl94_3 sz87 rfl) ?_
        first
          | refine TL.val rfl rfl (Nat.le_of_ble_eq_true rfl) (Val.load 0 rfl ag87 rfl rfl) ?_
          | refine TL.val rfl rfl (Nat.le_of_ble_eq_true rfl) (Val.load 1 rfl ag87 rfl rfl) ?_
          | refine TL.val rfl rfl (Nat.le_of_ble_eq_true rfl) (Val.load 2 rfl ag87 rfl rfl) ?_
          | refine TL.val rfl rfl (Nat.le_of_ble_eq_true rfl) (Val.load 3 rfl ag87 rfl rfl) ?_
          | refine TL.val rfl rfl (Nat.le_of_ble_eq_true rfl) (Val.load 4 rfl ag87 rfl rfl) ?_
          | refine TL.val rfl rfl (Nat.le_of_ble_eq_true rfl) (Val.load 5 rfl ag87 rfl rfl) ?_
        refine TL.val rfl rfl (Nat.le_of_ble_eq_true rfl) (Val.makeFunc rfl rfl) ?_
        refine TL.does (some 52) rfl rfl rfl (Does.callF go50 rfl (Contains_fn b1 b2 b3 2 1 0 (k : Nat) me e _ rfl rfl rfl kept _ _ _ ((((hRk.cons _).cons _).cons _).cons _) rfl hkl)) ?_
        rintro _ _ ⟨rfl, rfl⟩
        refine TL.nil ?_
        refine AtX.then ?_
        refine TC.env (E' := [(0, _), (4, _), (6, _), (7, _), (8, _), (10, _), (11, _), (13, _), (52, _)]) (Sub.cons rfl (Sub.cons rfl (Sub.cons rfl (Sub.cons rfl (Sub.cons rfl (Sub.cons rfl (Sub.cons rfl (Sub.cons rfl (Sub.cons rfl (Sub.nil _)))))))))) ?_
        first | refine TC.condP rfl (fun c4 => ?_) (fun c4 => ?_) | refine TC.condN rfl (fun c4 => ?_) (fun c4 => ?_) | refine TC.condB rfl (fun c4 => ?_) (fun c4 => ?_) | refine TC.cond rfl (fun c4 => ?_) (fun c4 => ?_)
        · skip
          (rw [hno] at c4; cases c4)
        · skip
          refine TC.env (E' := [(0, _), (4, _), (6, _), (7, _), (8, _), (10, _), (11, _), (13, _)]) (Sub.cons rfl (Sub.cons rfl (Sub.cons rfl (Sub.cons rfl (Sub.cons rfl (Sub.cons rfl (Sub.cons rfl (Sub.cons rfl (Sub.nil _))))))))) ?_
          refine TC.skip ?_
          refine AtX.then ?_
          refine TC.env (E' := [(0, _), (4, _), (6, _), (7, _), (8, _), (10, _), (11, _), (13, _)]) (Sub.cons rfl (Sub.cons rfl (Sub.cons rfl (Sub.cons rfl (Sub.cons rfl (Sub.cons rfl (Sub.cons rfl (Sub.cons rfl (Sub.nil _))))))))) ?_
          refine TC.drawGM [14] [(b3, .cells #[.int .i64 e] 2 (0, 0)), (b2, .cells #[.int .i64 me] 3 (0, 0)), (b1, .cells #[.int .i64 ((k : Nat) : Int)] 3 (0, 0)), wob b c (some ⟨bl, 0, none⟩) ps.length cl bb l.length σ kept.length n] [] mixed 15 ?_
          refine TG.tk false 0 1 rfl rfl rfl (Val.move rfl) ?_ (hro := (by first | exact Go.X.ro_nil | (repeat (first | exact Go.X.ro_pre4 | refine Go.X.ro_tail ?_ | refine Go.X.ro_app ?_))))
          refine TG.tk false 1 3 rfl rfl rfl (Val.move rfl) ?_ (hro := (by first | exact Go.X.ro_nil | (repeat (first | exact Go.X.ro_pre4 | refine Go.X.ro_tail ?_ | refine Go.X.ro_app ?_))))
          refine TG.tk false 2 7 rfl rfl rfl (Val.nilCheck rfl) ?_ (hro := (by first | exact Go.X.ro_nil | (repeat (first | exact Go.X.ro_pre4 | refine Go.X.ro_tail ?_ | refine Go.X.ro_app ?_))))
          refine TG.tk false 3 15 rfl rfl rfl (Val.fieldAddr rfl fl94_3 sz87 rfl) ?_ (hro := (by first | exact Go.X.ro_nil | (repeat (first | exact Go.X.ro_pre4 | refine Go.X.ro_tail ?_ | refine Go.X.ro_app ?_))))
          first
            | refine TG.tk false 4 31 rfl rfl rfl (Val.load 0 rfl ag87 rfl rfl) ?_ (hro := (by first | exact Go.X.ro_nil | (repeat (first | exact Go.X.ro_pre4 | refine Go.X.ro_tail ?_ | refine Go.X.ro_app ?_))))
            | refine TG.tk false 4 31 rfl rfl rfl (Val.load 1 rfl ag87 rfl rfl) ?_ (hro := (by first | exact Go.X.ro_nil | (repeat (first | exact Go.X.ro_pre4 | refine Go.X.ro_tail ?_ | refine Go.X.ro_app ?_))))
            | refine TG.tk false 4 31 rfl rfl rfl (Val.load 2 rfl ag87 rfl rfl) ?_ (hro := (by first | exact Go.X.ro_nil | (repeat (first | exact Go.X.ro_pre4 | refine Go.X.ro_tail ?_ | refine Go.X.ro_app ?_))))
            | refine TG.tk false 4 31 rfl rfl rfl (Val.load 3 rfl ag87 rfl rfl) ?_ (hro := (by first | exact Go.X.ro_nil | (repeat (first | exact Go.X.ro_pre4 | refine Go.X.ro_tail ?_ | refine Go.X.ro_app ?_))))
            | refine TG.tk false 4 31 rfl rfl rfl (Val.load 4 rfl ag87 rfl rfl) ?_ (hro := (by first | exact Go.X.ro_nil | (repeat (first | exact Go.X.ro_pre4 | refine Go.X.ro_tail ?_ | refine Go.X.ro_app ?_))))
            | refine TG.tk false 4 31 rfl rfl rfl (Val.load 5 rfl ag87 rfl rfl) ?_ (hro := (by first | exact Go.X.ro_nil | (repeat (first | exact Go.X.ro_pre4 | refine Go.X.ro_tail ?_ | refine Go.X.ro_app ?_))))
          first
            | refine TG.tk false 5 63 rfl rfl rfl (Val.load 0 rfl ag3 rfl rfl) ?_ (hro := (by first | exact Go.X.ro_nil | (repeat (first | exact Go.X.ro_pre4 | refine Go.X.ro_tail ?_ | refine Go.X.ro_app ?_))))
            | refine TG.tk false 5 63 rfl rfl rfl (Val.load 1 rfl ag3 rfl rfl) ?_ (hro := (by first | exact Go.X.ro_nil | (repeat (first | exact Go.X.ro_pre4 | refine Go.X.ro_tail ?_ | refine Go.X.ro_app ?_))))
            | refine TG.tk false 5 63 rfl rfl rfl (Val.load 2 rfl ag3 rfl rfl) ?_ (hro := (by first | exact Go.X.ro_nil | (repeat (first | exact Go.X.ro_pre4 | refine Go.X.ro_tail ?_ | refine Go.X.ro_app ?_))))
            | refine TG.tk false 5 63 rfl rfl rfl (Val.load 3 rfl ag3 rfl rfl) ?_ (hro := (by first | exact Go.X.ro_nil | (repeat (first | exact Go.X.ro_pre4 | refine Go.X.ro_tail ?_ | refine Go.X.ro_app ?_))))
            | refine TG.tk false 5 63 rfl rfl rfl (Val.load 4 rfl ag3 rfl rfl) ?_ (hro := (by first | exact Go.X.ro_nil | (repeat (first | exact Go.X.ro_pre4 | refine Go.X.ro_tail ?_ | refine Go.X.ro_app ?_))))
            | refine TG.tk false 5 63 rfl rfl rfl (Val.load 5 rfl ag3 rfl rfl) ?_ (hro := (by first | exact Go.X.ro_nil | (repeat (first | exact Go.X.ro_pre4 | refine Go.X.ro_tail ?_ | refine Go.X.ro_app ?_))))
          first
            | refine TG.tk false 6 127 rfl rfl rfl (Val.load 0 rfl ag3 rfl rfl) ?_ (hro := (by first | exact Go.X.ro_nil | (repeat (first | exact Go.X.ro_pre4 | refine Go.X.ro_tail ?_ | refine Go.X.ro_app ?_))))
            | refine TG.tk false 6 127 rfl rfl rfl (Val.load 1 rfl ag3 rfl rfl) ?_ (hro := (by first | exact Go.X.ro_nil | (repeat (first | exact Go.X.ro_pre4 | refine Go.X.ro_tail ?_ | refine Go.X.ro_app ?_))))
            | refine TG.tk false 6 127 rfl rfl rfl (Val.load 2 rfl ag3 rfl rfl) ?_ (hro := (by first | exact Go.X.ro_nil | (repeat (first | exact Go.X.ro_pre4 | refine Go.X.ro_tail ?_ | refine Go.X.ro_app ?_))))
            | refine TG.tk false 6 127 rfl rfl rfl (Val.load 3 rfl ag3 rfl rfl) ?_ (hro := (by first | exact Go.X.ro_nil | (repeat (first | exact Go.X.ro_pre4 | refine Go.X.ro_tail ?_ | refine Go.X.ro_app ?_))))
            | refine TG.tk false 6 127 rfl rfl rfl (Val.load 4 rfl ag3 rfl rfl) ?_ (hro := (by first | exact Go.X.ro_nil | (repeat (first | exact Go.X.ro_pre4 | refine Go.X.ro_tail ?_ | refine Go.X.ro_app ?_))))
            | refine TG.tk false 6 127 rfl rfl rfl (Val.load 5 rfl ag3 rfl rfl) ?_ (hro := (by first | exact Go.X.ro_nil | (repeat (first | exact Go.X.ro_pre4 | refine Go.X.ro_tail ?_ | refine Go.X.ro_app ?_))))
          first
            | refine TG.tk false 7 255 rfl rfl rfl (Val.load 0 rfl ag2 rfl rfl) ?_ (hro := (by first | exact Go.X.ro_nil | (repeat (first | exact Go.X.ro_pre4 | refine Go.X.ro_tail ?_ | refine Go.X.ro_app ?_))))
            | refine TG.tk false 7 255 rfl rfl rfl (Val.load 1 rfl ag2 rfl rfl) ?_ (hro := (by first | exact Go.X.ro_nil | (repeat (first | exact Go.X.ro_pre4 | refine Go.X.ro_tail ?_ | refine Go.X.ro_app ?_))))
            | refine TG.tk false 7 255 rfl rfl rfl (Val.load 2 rfl ag2 rfl rfl) ?_ (hro := (by first | exact Go.X.ro_nil | (repeat (first | exact Go.X.ro_pre4 | refine Go.X.ro_tail ?_ | refine Go.X.ro_app ?_))))
            | refine TG.tk false 7 255 rfl rfl rfl (Val.load 3 rfl ag2 rfl rfl) ?_ (hro := (by first | exact Go.X.ro_nil | (repeat (first | exact Go.X.ro_pre4 | refine Go.X.ro_tail ?_ | refine Go.X.ro_app ?_))))
            | refine TG.tk false 7 255 rfl rfl rfl (Val.load 4 rfl ag2 rfl rfl) ?_ (hro := (by first | exact Go.X.ro_nil | (repeat (first | exact Go.X.ro_pre4 | refine Go.X.ro_tail ?_ | refine Go.X.ro_app ?_))))
            | refine TG.tk false 7 255 rfl rfl rfl (Val.load 5 rfl ag2 rfl rfl) ?_ (hro := (by first | exact Go.X.ro_nil | (repeat (first | exact Go.X.ro_pre4 | refine Go.X.ro_tail ?_ | refine Go.X.ro_app ?_))))
          refine TG.tk false 8 511 rfl rfl rfl (Val.move rfl) ?_ (hro := (by first | exact Go.X.ro_nil | (repeat (first | exact Go.X.ro_pre4 | refine Go.X.ro_tail ?_ | refine Go.X.ro_app ?_))))
          refine TG.tk false 9 1023 rfl rfl rfl (Val.buildS pl100 ze100 rfl rfl) ?_ (hro := (by first | exact Go.X.ro_nil | (repeat (first | exact Go.X.ro_pre4 | refine Go.X.ro_tail ?_ | refine Go.X.ro_app ?_))))
          refine TG.one 10 (by kernel_rfl) ?_
          refine TP.dz false 2047 (some 63) rfl rfl rfl rfl (Does.buildSlice (cs := Smp.cs ⟨(k : Nat), me, e, v⟩) sl87 sz100 ze100 (by decide) (by decide) rfl rfl rfl) ?_
          rintro _ _ ⟨bt, rfl, rfl⟩
          refine ⟨(by first | exact Go.X.ro_nil | (repeat (first | exact Go.X.ro_pre4 | refine Go.X.ro_tail ?_ | refine Go.X.ro_app ?_))), ?_⟩
          refine TG.one 11 (by kernel_rfl) ?_
          refine TP.dz false 4095 (some 64) rfl rfl rfl rfl (Does.appendS (xs := (kept.flatMap Smp.cs)) (ys := Smp.cs ⟨(k : Nat), me, e, v⟩) σ ((b3, .cells #[.int .i64 e] 2 (0, 0)) :: (b2, .cells #[.int .i64 me] 3 (0, 0)) :: (b1, .cells #[.int .i64 ((k : Nat) : Int)] 3 (0, 0)) :: wob b c (some ⟨bl, 0, none⟩) ps.length cl bb l.length σ kept.length n :: H0) (fun w h => ro_mv (A := [_, _, _, _]) w h.drop) rfl rfl sl87 sz100 by100 ze100 rfl hok (.inl ⟨_, _, rfl, ⟨100, us87⟩, .some (Rd.get (i := 0) rfl rfl)⟩) rfl (one_smp _) (by omega) (by omega)) ?_
          rintro _ _ ⟨σ1, rfl, hok1, rfl⟩
          refine ⟨(by first | exact Go.X.ro_nil | (repeat (first | exact Go.X.ro_pre4 | refine Go.X.ro_tail ?_ | refine Go.X.ro_app ?_))), ?_⟩
          refine TG.heap (M' := (b3, .cells #[.int .i64 e] 2 (0, 0)) :: (b2, .cells #[.int .i64 me] 3 (0, 0)) :: (b1, .cells #[.int .i64 ((k : Nat) : Int)] 3 (0, 0)) :: wob b c (some ⟨bl, 0, none⟩) ps.length cl bb l.length σ kept.length n :: (slH σ1 100 ((kept.flatMap Smp.cs) ++ Smp.cs ⟨(k : Nat), me, e, v⟩) ++ H0)) (fun w h => ro_mv (L := [_, _, _, _]) w h) ?_
          refine TG.tw false 12 8191 rfl rfl rfl (Val.nilCheck rfl) ?_ (hro := (by first | exact Go.X.ro_nil | (repeat (first | exact Go.X.ro_pre4 | refine Go.X.ro_tail ?_ | refine Go.X.ro_app ?_))))
          refine TG.tk false 13 16383 rfl rfl rfl (Val.fieldAddr rfl fl94_3 sz87 rfl) ?_ (hro := (by first | exact Go.X.ro_nil | (repeat (first | exact Go.X.ro_pre4 | refine Go.X.ro_tail ?_ | refine Go.X.ro_app ?_))))
          refine TG.one 14 (by kernel_rfl) ?_
          first
            | refine TP.dz true 32767 none rfl rfl rfl rfl (Does.store (i := 0) rfl rfl rfl sz87 rfl rfl (by first | exact Nat.le_of_ble_eq_true rfl | decide | omega) rfl rfl) ?_
            | refine TP.dz true 32767 none rfl rfl rfl rfl (Does.store (i := 1) rfl rfl rfl sz87 rfl rfl (by first | exact Nat.le_of_ble_eq_true rfl | decide | omega) rfl rfl) ?_
            | refine TP.dz true 32767 none rfl rfl rfl rfl (Does.store (i := 2) rfl rfl rfl sz87 rfl rfl (by first | exact Nat.le_of_ble_eq_true rfl | decide | omega) rfl rfl) ?_
            | refine TP.dz true 32767 none rfl rfl rfl rfl (Does.store (i := 3) rfl rfl rfl sz87 rfl rfl (by first | exact Nat.le_of_ble_eq_true rfl | decide | omega) rfl rfl) ?_
            | refine TP.dz true 32767 none rfl rfl rfl rfl (Does.store (i := 4) rfl rfl rfl sz87 rfl rfl (by first | exact Nat.le_of_ble_eq_true rfl | decide | omega) rfl rfl) ?_
            | refine TP.dz true 32767 none rfl rfl rfl rfl (Does.store (i := 5) rfl rfl rfl sz87 rfl rfl (by first | exact Nat.le_of_ble_eq_true rfl | decide | omega) rfl rfl) ?_
          rintro _ _ ⟨rfl, rfl⟩
          refine ⟨(by first | exact Go.X.ro_nil | (repeat (first | exact Go.X.ro_pre4 | refine Go.X.ro_tail ?_ | refine Go.X.ro_app ?_))), ?_⟩
          refine TG.done (by kernel_rfl) ?_ _
          refine AtX.then ?_
          refine TC.env (E' := [(0, _), (4, _), (7, _), (8, _), (10, _), (11, _), (13, _)]) (Sub.cons rfl (Sub.cons rfl (Sub.cons rfl (Sub.cons rfl (Sub.cons rfl (Sub.cons rfl (Sub.cons rfl (Sub.nil _)))))))) ?_
          refine TC.seq ?_
          refine TC.heap (M' := (b3, .cells #[.int .i64 e] 2 (0, 0)) :: (b2, .cells #[.int .i64 me] 3 (0, 0)) :: (b1, .cells #[.int .i64 ((k : Nat) : Int)] 3 (0, 0)) :: wob b c (some ⟨bl, 0, none⟩) ps.length cl bb l.length σ1 (kept.length + 1) n :: (slH σ1 100 ((kept.flatMap Smp.cs) ++ Smp.cs ⟨(k : Nat), me, e, v⟩) ++ H0)) (fun w h => h) ?_
          refine TC.region ?_
          refine TL.val rfl rfl (Nat.le_of_ble_eq_true rfl) (Val.move rfl) ?_
          refine TL.val rfl rfl (Nat.le_of_ble_eq_true rfl) (Val.nilCheck rfl) ?_
          refine TL.val rfl rfl (Nat.le_of_ble_eq_true rfl) (Val.fieldAddr rfl fl94_4 sz92 rfl) ?_
          refine TL.does (some 70) rfl rfl rfl (Does.callF go52 rfl (aAdd_fn b 29 3 _ _ n 1 (n + 1) _ rfl rfl (w_i64 (by omega) (by omega)))) ?_
          rintro _ _ ⟨rfl, rfl⟩
          refine TL.nil ?_
          refine AtX.then ?_
          refine TC.env (E' := [(4, _), (7, _), (8, _), (10, _), (11, _), (13, _)]) (Sub.cons rfl (Sub.cons rfl (Sub.cons rfl (Sub.cons rfl (Sub.cons rfl (Sub.cons rfl (Sub.nil _))))))) ?_
          refine TC.seq ?_
          refine TC.heap (M' := (b3, .cells #[.int .i64 e] 2 (0, 0)) :: (b2, .cells #[.int .i64 me] 3 (0, 0)) :: (b1, .cells #[.int .i64 ((k : Nat) : Int)] 3 (0, 0)) :: wob b c (some ⟨bl, 0, none⟩) ps.length cl bb l.length σ1 (kept.length + 1) (n + 1) :: (slH σ1 100 ((kept.flatMap Smp.cs) ++ Smp.cs ⟨(k : Nat), me, e, v⟩) ++ H0)) (fun w h => h) ?_
          refine TC.region ?_
          refine TL.val rfl rfl (Nat.le_of_ble_eq_true rfl) (Val.move rfl) ?_
          first
            | refine TL.val rfl rfl (Nat.le_of_ble_eq_true rfl) (Val.load 0 rfl ag3 rfl rfl) ?_
            | refine TL.val rfl rfl (Nat.le_of_ble_eq_true rfl) (Val.load 1 rfl ag3 rfl rfl) ?_
            | refine TL.val rfl rfl (Nat.le_of_ble_eq_true rfl) (Val.load 2 rfl ag3 rfl rfl) ?_
            | refine TL.val rfl rfl (Nat.le_of_ble_eq_true rfl) (Val.load 3 rfl ag3 rfl rfl) ?_
            | refine TL.val rfl rfl (Nat.le_of_ble_eq_true rfl) (Val.load 4 rfl ag3 rfl rfl) ?_
            | refine TL.val rfl rfl (Nat.le_of_ble_eq_true rfl) (Val.load 5 rfl ag3 rfl rfl) ?_
          first
            | refine TL.val rfl rfl (Nat.le_of_ble_eq_true rfl) (Val.load 0 rfl ag2 rfl rfl) ?_
            | refine TL.val rfl rfl (Nat.le_of_ble_eq_true rfl) (Val.load 1 rfl ag2 rfl rfl) ?_
            | refine TL.val rfl rfl (Nat.le_of_ble_eq_true rfl) (Val.load 2 rfl ag2 rfl rfl) ?_
            | refine TL.val rfl rfl (Nat.le_of_ble_eq_true rfl) (Val.load 3 rfl ag2 rfl rfl) ?_
            | refine TL.val rfl rfl (Nat.le_of_ble_eq_true rfl) (Val.load 4 rfl ag2 rfl rfl) ?_
            | refine TL.val rfl rfl (Nat.le_of_ble_eq_true rfl) (Val.load 5 rfl ag2 rfl rfl) ?_
          refine TL.val rfl rfl (Nat.le_of_ble_eq_true rfl) (Val.move rfl) ?_
          refine TL.does (some 75) rfl rfl rfl (Does.callF go31 rfl (sSample_fn sb _ s (k : Nat) g q me e v _ (get_app4 hs) hm)) ?_
          rintro _ _ ⟨bE, cE, spE, rfl, hcE, rfl⟩
          refine TL.val rfl rfl (Nat.le_of_ble_eq_true rfl) (Val.extract rfl rfl) ?_
          refine TL.val rfl rfl (Nat.le_of_ble_eq_true rfl) (Val.extract rfl rfl) ?_
          refine TL.val rfl rfl (Nat.le_of_ble_eq_true rfl) (Val.assign rfl) ?_
          refine TL.val rfl rfl (Nat.le_of_ble_eq_true rfl) (Val.assign rfl) ?_
          refine TL.nil ?_
          refine AtX.then ?_
          refine TC.env (E' := [(10, _), (11, _)]) (Sub.cons rfl (Sub.cons rfl (Sub.nil _))) ?_
          refine TC.ret2 (fn := Try.f16) (fun _ _ h => h) rfl (RV.tmp rfl) (RV.tmp rfl) (M' := (bE, row 5 (bv (sealB (macKey s (k : Nat) g) ⟨1, (k : Nat), g, q + 1, e, v, me⟩) ++ spE)) :: wob b c (some ⟨bl, 0, none⟩) ps.length cl bb l.length σ1 (kept.length + 1) (n + 1) :: (slH σ1 100 ((kept.flatMap Smp.cs) ++ Smp.cs ⟨(k : Nat), me, e, v⟩) ++ H0.set js (sobj sb s (k : Nat) g (q + 1)))) (fun w h => by rw [set_app4] at h; exact ro_del 1 rfl w (ro_del 1 rfl w (ro_del 1 rfl w h))) ?_
          exact ⟨bE, _, spE, σ1, rfl, hok1, rfl⟩
      · skip
        cases c3

/-- (*quorumite/adverse.World).Sample -/
theorem wSample_bad (b bl cl bb : Nat) (c : Cf) (σ : Sl) (kept : List Smp) (n : Int) (l : List Bool) (ps spl : List Value) (jb jl js : Nat) (H0 : Hp) (hb : H0[jb]? = some (bb, row 4 (l.map Value.bool))) (hl : H0[jl]? = some (bl, row 57 (ps ++ spl))) (hpl : ps.length = l.length) (sb k : Nat) (s g q : Int) (hp : ps[k]? = some (.pointer (some ⟨sb, 0, none⟩))) (hs : H0[js]? = some (sobj sb s (k : Nat) g q)) (hok : slOk σ 4 kept.length (kept.flatMap Smp.cs)) (hkl : kept.length ≤ 1000) (hn : 0 ≤ n ∧ n ≤ 1000000) (me e v : Int) (hm : mayM ⟨1, (k : Nat), g, q + 1, e, v, me⟩ = true) (hx : l[k]? = some true) : FnC Try.prog 16 #[.pointer (some ⟨b, 0, none⟩), .int .i64 ((k : Nat) : Int), .int .i64 me, .int .i64 e, .int .i64 v] (wob b c (some ⟨bl, 0, none⟩) ps.length cl bb l.length σ kept.length n :: (slH σ 100 (kept.flatMap Smp.cs) ++ H0)) (fun u M' => ∃ bE c' sp, u = .tuple #[.slice (some ⟨bE, 0, none⟩) 48 c', .int .i64 0] ∧ M' = (bE, row 5 (bv (sealB (macKey s (k : Nat) g) ⟨1, (k : Nat), g, q + 1, e, v, me⟩) ++ sp)) :: wob b c (some ⟨bl, 0, none⟩) ps.length cl bb l.length σ kept.length (n + 1) :: (slH σ 100 (kept.flatMap Smp.cs) ++ H0.set js (sobj sb s (k : Nat) g (q + 1)))) := by
  have hk2 : k < ps.length := (List.getElem?_eq_some_iff.1 hp).1
  have hRl := rd_row0 hl
  have hRb := rd_rowA hb
  obtain ⟨qk, qw, qg, qs, qe, qme, qv⟩ := mayM_iff.1 hm
  simp only at qk qw qg qs qe qme qv
  have hRk : RdS (slH σ 100 (kept.flatMap Smp.cs) ++ H0) (slA σ) (kept.flatMap Smp.cs) := rdS_opt hok
  refine FnC.intro Try.func16 rfl 78 rfl (by simp) (fun z => ?_)
  refine TC.env (E' := [(0, _), (1, _), (2, _), (3, _), (4, _)]) (Sub.cons rfl (Sub.cons rfl (Sub.cons rfl (Sub.cons rfl (Sub.cons rfl (Sub.nil _)))))) ?_
  refine TC.seq ?_
  refine TC.region ?_
  refine TL.does (some 6) rfl rfl rfl (Does.box rfl rfl) ?_
  rintro _ _ ⟨b1, rfl, rfl⟩
  refine TL.does (some 7) rfl rfl rfl (Does.box rfl rfl) ?_
  rintro _ _ ⟨b2, rfl, rfl⟩
  refine TL.does (some 8) rfl rfl rfl (Does.box rfl rfl) ?_
  rintro _ _ ⟨b3, rfl, rfl⟩
  refine TL.val rfl rfl (Nat.le_of_ble_eq_true rfl) (Val.assign rfl) ?_
  refine TL.val rfl rfl (Nat.le_of_ble_eq_true rfl) (Val.assign rfl) ?_
  refine TL.nil ?_
  refine AtX.then ?_
  refine TC.env (E' := [(0, _), (4, _), (6, _), (7, _), (8, _), (10, _), (11, _)]) (Sub.cons rfl (Sub.cons rfl (Sub.cons rfl (Sub.cons rfl (Sub.cons rfl (Sub.cons rfl (Sub.cons rfl (Sub.nil _)))))))) ?_
  refine TC.seq ?_
  refine TC.seq ?_
  refine TC.region ?_
  refine TL.val rfl rfl (Nat.le_of_ble_eq_true rfl) (Val.move rfl) ?_
  first
    | refine TL.val rfl rfl (Nat.le_of_ble_eq_true rfl) (Val.load 0 rfl ag3 rfl rfl) ?_
    | refine TL.val rfl rfl (Nat.le_of_ble_eq_true rfl) (Val.load 1 rfl ag3 rfl rfl) ?_
    | refine TL.val rfl rfl (Nat.le_of_ble_eq_true rfl) (Val.load 2 rfl ag3 rfl rfl) ?_
    | refine TL.val rfl rfl (Nat.le_of_ble_eq_true rfl) (Val.load 3 rfl ag3 rfl rfl) ?_
    | refine TL.val rfl rfl (Nat.le_of_ble_eq_true rfl) (Val.load 4 rfl ag3 rfl rfl) ?_
    | refine TL.val rfl rfl (Nat.le_of_ble_eq_true rfl) (Val.load 5 rfl ag3 rfl rfl) ?_
  refine TL.does (some 16) rfl rfl rfl (Does.callF go46 rfl (has_ok b 3 c _ ps.length cl bb l.length σ kept.length n _ rfl k hk2)) ?_
  rintro _ _ ⟨rfl, rfl⟩
  refine TL.val rfl rfl (Nat.le_of_ble_eq_true rfl) (Val.assign rfl) ?_
  refine TL.nil ?_
  refine AtX.then ?_
  refine TC.env (E' := [(0, _), (4, _), (6, _), (7, _), (8, _), (10, _), (11, _), (12, _)]) (Sub.cons rfl (Sub.cons rfl (Sub.cons rfl (Sub.cons rfl (Sub.cons rfl (Sub.cons rfl (Sub.cons rfl (Sub.cons rfl (Sub.nil _))))))))) ?_
  refine TC.seq ?_
  refine TC.region ?_
  refine TL.val rfl rfl (Nat.le_of_ble_eq_true rfl) (Val.move rfl) ?_
  refine TL.val rfl rfl (Nat.le_of_ble_eq_true rfl) (Val.neqI rfl rfl) ?_
  refine TL.nil ?_
  refine AtX.then ?_
  refine TC.env (E' := [(0, _), (4, _), (6, _), (7, _), (8, _), (10, _), (11, _), (12, _), (18, _)]) (Sub.cons rfl (Sub.cons rfl (Sub.cons rfl (Sub.cons rfl (Sub.cons rfl (Sub.cons rfl (Sub.cons rfl (Sub.cons rfl (Sub.cons rfl (Sub.nil _)))))))))) ?_
  first | refine TC.condP rfl (fun c1 => ?_) (fun c1 => ?_) | refine TC.condN rfl (fun c1 => ?_) (fun c1 => ?_) | refine TC.condB rfl (fun c1 => ?_) (fun c1 => ?_) | refine TC.cond rfl (fun c1 => ?_) (fun c1 => ?_)
  · skip
    exact absurd rfl c1
  · skip
    refine TC.env (E' := [(0, _), (4, _), (6, _), (7, _), (8, _), (10, _), (11, _)]) (Sub.cons rfl (Sub.cons rfl (Sub.cons rfl (Sub.cons rfl (Sub.cons rfl (Sub.cons rfl (Sub.cons rfl (Sub.nil _)))))))) ?_
    refine TC.skip ?_
    refine AtX.then ?_
    refine TC.env (E' := [(0, _), (4, _), (6, _), (7, _), (8, _), (10, _), (11, _)]) (Sub.cons rfl (Sub.cons rfl (Sub.cons rfl (Sub.cons rfl (Sub.cons rfl (Sub.cons rfl (Sub.cons rfl (Sub.nil _)))))))) ?_
    refine TC.seq ?_
    refine TC.drawLM mixed 8 ?_
    refine TA.tk 0 1 rfl rfl rfl (Val.move rfl) ?_
    refine TA.tk 1 3 rfl rfl rfl (Val.nilCheck rfl) ?_
    refine TA.tk 2 7 rfl rfl rfl (Val.fieldAddr rfl fl94_1 sz86 rfl) ?_
    first
      | refine TA.tk 3 15 rfl rfl rfl (Val.load 0 rfl ag86 rfl rfl) ?_
      | refine TA.tk 3 15 rfl rfl rfl (Val.load 1 rfl ag86 rfl rfl) ?_
      | refine TA.tk 3 15 rfl rfl rfl (Val.load 2 rfl ag86 rfl rfl) ?_
      | refine TA.tk 3 15 rfl rfl rfl (Val.load 3 rfl ag86 rfl rfl) ?_
      | refine TA.tk 3 15 rfl rfl rfl (Val.load 4 rfl ag86 rfl rfl) ?_
      | refine TA.tk 3 15 rfl rfl rfl (Val.load 5 rfl ag86 rfl rfl) ?_
    first
      | refine TA.tk 4 31 rfl rfl rfl (Val.load 0 rfl ag3 rfl rfl) ?_
      | refine TA.tk 4 31 rfl rfl rfl (Val.load 1 rfl ag3 rfl rfl) ?_
      | refine TA.tk 4 31 rfl rfl rfl (Val.load 2 rfl ag3 rfl rfl) ?_
      | refine TA.tk 4 31 rfl rfl rfl (Val.load 3 rfl ag3 rfl rfl) ?_
      | refine TA.tk 4 31 rfl rfl rfl (Val.load 4 rfl ag3 rfl rfl) ?_
      | refine TA.tk 4 31 rfl rfl rfl (Val.load 5 rfl ag3 rfl rfl) ?_
    refine TA.tk 5 63 rfl rfl rfl (Val.indexAddr (i := k) (r := k) rfl rfl sl86 sz57 rfl hk2 (by omega)) ?_
    refine TA.tk 6 127 rfl rfl rfl (Val.loadRd (o := 0) (j := k) rfl ag57 (Rd.cons _ (Rd.cons _ (Rd.cons _ (Rd.cons _ (Rd.app _ hRl))))) (by omega) hp) ?_
    refine TA.tk 7 255 rfl rfl rfl (Val.assign rfl) ?_
    refine TA.done (by kernel_rfl) ?_
    refine AtX.then ?_
    refine TC.env (E' := [(0, _), (4, _), (6, _), (7, _), (8, _), (10, _), (11, _), (13, _)]) (Sub.cons rfl (Sub.cons rfl (Sub.cons rfl (Sub.cons rfl (Sub.cons rfl (Sub.cons rfl (Sub.cons rfl (Sub.cons rfl (Sub.nil _))))))))) ?_
    refine TC.seq ?_
    refine TC.seq ?_
    refine TC.drawLM mixed 12 ?_
    first
      | refine TA.tk 0 1 rfl rfl rfl (Val.load 0 rfl ag3 rfl rfl) ?_
      | refine TA.tk 0 1 rfl rfl rfl (Val.load 1 rfl ag3 rfl rfl) ?_
      | refine TA.tk 0 1 rfl rfl rfl (Val.load 2 rfl ag3 rfl rfl) ?_
      | refine TA.tk 0 1 rfl rfl rfl (Val.load 3 rfl ag3 rfl rfl) ?_
      | refine TA.tk 0 1 rfl rfl rfl (Val.load 4 rfl ag3 rfl rfl) ?_
      | refine TA.tk 0 1 rfl rfl rfl (Val.load 5 rfl ag3 rfl rfl) ?_
    refine TA.tk 1 3 rfl rfl rfl (Val.move rfl) ?_
    refine TA.tk 3 11 rfl rfl rfl (Val.move rfl) ?_
    first
      | refine TA.tk 6 75 rfl rfl rfl (Val.load 0 rfl ag2 rfl rfl) ?_
      | refine TA.tk 6 75 rfl rfl rfl (Val.load 1 rfl ag2 rfl rfl) ?_
      | refine TA.tk 6 75 rfl rfl rfl (Val.load 2 rfl ag2 rfl rfl) ?_
      | refine TA.tk 6 75 rfl rfl rfl (Val.load 3 rfl ag2 rfl rfl) ?_
      | refine TA.tk 6 75 rfl rfl rfl (Val.load 4 rfl ag2 rfl rfl) ?_
      | refine TA.tk 6 75 rfl rfl rfl (Val.load 5 rfl ag2 rfl rfl) ?_
    refine TA.tk 7 203 rfl rfl rfl (Val.move rfl) ?_
    first
      | refine TA.tk 8 459 rfl rfl rfl (Val.load 0 rfl ag3 rfl rfl) ?_
      | refine TA.tk 8 459 rfl rfl rfl (Val.load 1 rfl ag3 rfl rfl) ?_
      | refine TA.tk 8 459 rfl rfl rfl (Val.load 2 rfl ag3 rfl rfl) ?_
      | refine TA.tk 8 459 rfl rfl rfl (Val.load 3 rfl ag3 rfl rfl) ?_
      | refine TA.tk 8 459 rfl rfl rfl (Val.load 4 rfl ag3 rfl rfl) ?_
      | refine TA.tk 8 459 rfl rfl rfl (Val.load 5 rfl ag3 rfl rfl) ?_
    refine TA.one 2 (by kernel_rfl) ?_
    refine TO.dz 463 (some 29) rfl rfl rfl rfl (Does.callF go48 rfl (Gen_fn sb _ s (k : Nat) g q _ (get_app4 hs))) ?_
    rintro _ _ ⟨rfl, rfl⟩
    refine roK ?_
    refine TA.one 4 (by kernel_rfl) ?_
    refine TO.dz 479 (some 31) rfl rfl rfl rfl (Does.callF go49 rfl (Seq_fn sb _ s (k : Nat) g q _ (get_app4 hs))) ?_
    rintro _ _ ⟨rfl, rfl⟩
    refine roK ?_
    refine TA.tk 5 511 rfl rfl rfl (Val.add rfl rfl (r := q + 1) (w_i64 (by omega) (by omega))) ?_
    refine TA.tk 9 1023 rfl rfl rfl (Val.buildS pl61 ze61 rfl rfl) ?_
    refine TA.one 10 (by kernel_rfl) ?_
    refine TO.dz 2047 (some 37) rfl rfl rfl rfl (Does.callF go47 rfl (May_true ⟨1, (k : Nat), g, q + 1, e, v, me⟩ _ hm)) ?_
    rintro _ _ ⟨rfl, rfl⟩
    refine roK ?_
    refine TA.tk 11 4095 rfl rfl rfl (Val.not rfl) ?_
    refine TA.done (by kernel_rfl) ?_
    refine AtX.then ?_
    refine TC.env (E' := [(0, _), (4, _), (6, _), (7, _), (8, _), (10, _), (11, _), (13, _), (38, _)]) (Sub.cons rfl (Sub.cons rfl (Sub.cons rfl (Sub.cons rfl (Sub.cons rfl (Sub.cons rfl (Sub.cons rfl (Sub.cons rfl (Sub.cons rfl (Sub.nil _)))))))))) ?_
    first | refine TC.condP rfl (fun c2 => ?_) (fun c2 => ?_) | refine TC.condN rfl (fun c2 => ?_) (fun c2 => ?_) | refine TC.condB rfl (fun c2 => ?_) (fun c2 => ?_) | refine TC.cond rfl (fun c2 => ?_) (fun c2 => ?_)
    · skip
      cases c2
    · skip
      refine TC.env (E' := [(0, _), (4, _), (6, _), (7, _), (8, _), (10, _), (11, _), (13, _)]) (Sub.cons rfl (Sub.cons rfl (Sub.cons rfl (Sub.cons rfl (Sub.cons rfl (Sub.cons rfl (Sub.cons rfl (Sub.cons rfl (Sub.nil _))))))))) ?_
      refine TC.skip ?_
      refine AtX.then ?_
      refine TC.env (E' := [(0, _), (4, _), (6, _), (7, _), (8, _), (10, _), (11, _), (13, _)]) (Sub.cons rfl (Sub.cons rfl (Sub.cons rfl (Sub.cons rfl (Sub.cons rfl (Sub.cons rfl (Sub.cons rfl (Sub.cons rfl (Sub.nil _))))))))) ?_
      refine TC.seq ?_
      refine TC.seq ?_
      refine TC.drawLM mixed 8 ?_
      refine TA.tk 0 1 rfl rfl rfl (Val.move rfl) ?_
      refine TA.tk 1 3 rfl rfl rfl (Val.nilCheck rfl) ?_
      refine TA.tk 2 7 rfl rfl rfl (Val.fieldAddr rfl fl94_2 sz85 rfl) ?_
      first
        | refine TA.tk 3 15 rfl rfl rfl (Val.load 0 rfl ag85 rfl rfl) ?_
        | refine TA.tk 3 15 rfl rfl rfl (Val.load 1 rfl ag85 rfl rfl) ?_
        | refine TA.tk 3 15 rfl rfl rfl (Val.load 2 rfl ag85 rfl rfl) ?_
        | refine TA.tk 3 15 rfl rfl rfl (Val.load 3 rfl ag85 rfl rfl) ?_
        | refine TA.tk 3 15 rfl rfl rfl (Val.load 4 rfl ag85 rfl rfl) ?_
        | refine TA.tk 3 15 rfl rfl rfl (Val.load 5 rfl ag85 rfl rfl) ?_
      first
        | refine TA.tk 4 31 rfl rfl rfl (Val.load 0 rfl ag3 rfl rfl) ?_
        | refine TA.tk 4 31 rfl rfl rfl (Val.load 1 rfl ag3 rfl rfl) ?_
        | refine TA.tk 4 31 rfl rfl rfl (Val.load 2 rfl ag3 rfl rfl) ?_
        | refine TA.tk 4 31 rfl rfl rfl (Val.load 3 rfl ag3 rfl rfl) ?_
        | refine TA.tk 4 31 rfl rfl rfl (Val.load 4 rfl ag3 rfl rfl) ?_
        | refine TA.tk 4 31 rfl rfl rfl (Val.load 5 rfl ag3 rfl rfl) ?_
      refine TA.tk 5 63 rfl rfl rfl (Val.indexAddr (i := k) (r := k) rfl rfl sl85 sz4 rfl (by omega) (by omega)) ?_
      refine TA.tk 6 127 rfl rfl rfl (Val.loadRd (o := 0) (j := k) (v := .bool true) rfl ag4 (Rd.cons _ (Rd.cons _ (Rd.cons _ (Rd.cons _ (Rd.app _ hRb))))) (by omega) (map_get hx)) ?_
      refine TA.tk 7 255 rfl rfl rfl (Val.not rfl) ?_
      refine TA.done (by kernel_rfl) ?_
      refine AtX.then ?_
      refine TC.env (E' := [(0, _), (4, _), (6, _), (7, _), (8, _), (10, _), (11, _), (13, _), (46, _)]) (Sub.cons rfl (Sub.cons rfl (Sub.cons rfl (Sub.cons rfl (Sub.cons rfl (Sub.cons rfl (Sub.cons rfl (Sub.cons rfl (Sub.cons rfl (Sub.nil _)))))))))) ?_
      first | refine TC.condP rfl (fun c3 => ?_) (fun c3 => ?_) | refine TC.condN rfl (fun c3 => ?_) (fun c3 => ?_) | refine TC.condB rfl (fun c3 => ?_) (fun c3 => ?_) | refine TC.cond rfl (fun c3 => ?_) (fun c3 => ?_)
      · skip
        cases c3
      · skip
        refine TC.env (E' := [(0, _), (4, _), (7, _), (8, _), (10, _), (11, _), (13, _)]) (Sub.cons rfl (Sub.cons rfl (Sub.cons rfl (Sub.cons rfl (Sub.cons rfl (Sub.cons rfl (Sub.cons rfl (Sub.nil _)))))))) ?_
        refine TC.skip ?_
        refine AtX.then ?_
        refine TC.env (E' := [(0, _), (4, _), (7, _), (8, _), (10, _), (11, _), (13, _)]) (Sub.cons rfl (Sub.cons rfl (Sub.cons rfl (Sub.cons rfl (Sub.cons rfl (Sub.cons rfl (Sub.cons rfl (Sub.nil _)))))))) ?_
        refine TC.seq ?_
        refine TC.region ?_
        refine TL.val rfl rfl (Nat.le_of_ble_eq_true rfl) (Val.move rfl) ?_
        refine TL.val rfl rfl (Nat.le_of_ble_eq_true rfl) (Val.nilCheck rfl) ?_
        refine TL.val rfl rfl (Nat.le_of_ble_eq_true rfl) (Val.fieldAddr rfl fl94_4 sz92 rfl) ?_
        refine TL.does (some 70) rfl rfl rfl (Does.callF go52 rfl (aAdd_fn b 29 3 _ _ n 1 (n + 1) _ rfl rfl (w_i64 (by omega) (by omega)))) ?_
        rintro _ _ ⟨rfl, rfl⟩
        refine TL.nil ?_
        refine AtX.then ?_
        refine TC.env (E' := [(4, _), (7, _), (8, _), (10, _), (11, _), (13, _)]) (Sub.cons rfl (Sub.cons rfl (Sub.cons rfl (Sub.cons rfl (Sub.cons rfl (Sub.cons rfl (Sub.nil _))))))) ?_
        refine TC.seq ?_
        refine TC.heap (M' := (b3, .cells #[.int .i64 e] 2 (0, 0)) :: (b2, .cells #[.int .i64 me] 3 (0, 0)) :: (b1, .cells #[.int .i64 ((k : Nat) : Int)] 3 (0, 0)) :: wob b c (some ⟨bl, 0, none⟩) ps.length cl bb l.length σ kept.length (n + 1) :: (slH σ 100 (kept.flatMap Smp.cs) ++ H0)) (fun w h => h) ?_
        refine TC.region ?_
        refine TL.val rfl rfl (Nat.le_of_ble_eq_true rfl) (Val.move rfl) ?_
        first
          | refine TL.val rfl rfl (Nat.le_of_ble_eq_true rfl) (Val.load 0 rfl ag3 rfl rfl) ?_
          | refine TL.val rfl rfl (Nat.le_of_ble_eq_true rfl) (Val.load 1 rfl ag3 rfl rfl) ?_
          | refine TL.val rfl rfl (Nat.le_of_ble_eq_true rfl) (Val.load 2 rfl ag3 rfl rfl) ?_
          | refine TL.val rfl rfl (Nat.le_of_ble_eq_true rfl) (Val.load 3 rfl ag3 rfl rfl) ?_
          | refine TL.val rfl rfl (Nat.le_of_ble_eq_true rfl) (Val.load 4 rfl ag3 rfl rfl) ?_
          | refine TL.val rfl rfl (Nat.le_of_ble_eq_true rfl) (Val.load 5 rfl ag3 rfl rfl) ?_
        first
          | refine TL.val rfl rfl (Nat.le_of_ble_eq_true rfl) (Val.load 0 rfl ag2 rfl rfl) ?_
          | refine TL.val rfl rfl (Nat.le_of_ble_eq_true rfl) (Val.load 1 rfl ag2 rfl rfl) ?_
          | refine TL.val rfl rfl (Nat.le_of_ble_eq_true rfl) (Val.load 2 rfl ag2 rfl rfl) ?_
          | refine TL.val rfl rfl (Nat.le_of_ble_eq_true rfl) (Val.load 3 rfl ag2 rfl rfl) ?_
          | refine TL.val rfl rfl (Nat.le_of_ble_eq_true rfl) (Val.load 4 rfl ag2 rfl rfl) ?_
          | refine TL.val rfl rfl (Nat.le_of_ble_eq_true rfl) (Val.load 5 rfl ag2 rfl rfl) ?_
        refine TL.val rfl rfl (Nat.le_of_ble_eq_true rfl) (Val.move rfl) ?_
        refine TL.does (some 75) rfl rfl rfl (Does.callF go31 rfl (sSample_fn sb _ s (k : Nat) g q me e v _ (get_app4 hs) hm)) ?_
        rintro _ _ ⟨bE, cE, spE, rfl, hcE, rfl⟩
        refine TL.val rfl rfl (Nat.le_of_ble_eq_true rfl) (Val.extract rfl rfl) ?_
        refine TL.val rfl rfl (Nat.le_of_ble_eq_true rfl) (Val.extract rfl rfl) ?_
        refine TL.val rfl rfl (Nat.le_of_ble_eq_true rfl) (Val.assign rfl) ?_
        refine TL.val rfl rfl (Nat.le_of_ble_eq_true rfl) (Val.assign rfl) ?_
        refine TL.nil ?_
        refine AtX.then ?_
        refine TC.env (E' := [(10, _), (11, _)]) (Sub.cons rfl (Sub.cons rfl (Sub.nil _))) ?_
        refine TC.ret2 (fn := Try.f16) (fun _ _ h => h) rfl (RV.tmp rfl) (RV.tmp rfl) (M' := (bE, row 5 (bv (sealB (macKey s (k : Nat) g) ⟨1, (k : Nat), g, q + 1, e, v, me⟩) ++ spE)) :: wob b c (some ⟨bl, 0, none⟩) ps.length cl bb l.length σ kept.length (n + 1) :: (slH σ 100 (kept.flatMap Smp.cs) ++ H0.set js (sobj sb s (k : Nat) g (q + 1)))) (fun w h => by rw [set_app4] at h; exact ro_del 1 rfl w (ro_del 1 rfl w (ro_del 1 rfl w h))) ?_
        exact ⟨bE, _, spE, rfl, rfl⟩

/-- (*quorumite/adverse.World).Sample -/
theorem wSample_twice (b bl cl bb : Nat) (c : Cf) (σ : Sl) (kept : List Smp) (n : Int) (l : List Bool) (ps spl : List Value) (jb jl js : Nat) (H0 : Hp) (hb : H0[jb]? = some (bb, row 4 (l.map Value.bool))) (hl : H0[jl]? = some (bl, row 57 (ps ++ spl))) (hpl : ps.length = l.length) (sb k : Nat) (s g q : Int) (hp : ps[k]? = some (.pointer (some ⟨sb, 0, none⟩))) (hs : H0[js]? = some (sobj sb s (k : Nat) g q)) (hok : slOk σ 4 kept.length (kept.flatMap Smp.cs)) (hkl : kept.length ≤ 1000) (hn : 0 ≤ n ∧ n ≤ 1000000) (me e v : Int) (hm : mayM ⟨1, (k : Nat), g, q + 1, e, v, me⟩ = true) (hx : l[k]? = some false) (hno : kept.any (fun x => sameS x (k : Nat) me e) = true) : FnC Try.prog 16 #[.pointer (some ⟨b, 0, none⟩), .int .i64 ((k : Nat) : Int), .int .i64 me, .int .i64 e, .int .i64 v] (wob b c (some ⟨bl, 0, none⟩) ps.length cl bb l.length σ kept.length n :: (slH σ 100 (kept.flatMap Smp.cs) ++ H0)) (fun u M' => u = .tuple #[.slice none 0 0, .int .i64 8] ∧ (wob b c (some ⟨bl, 0, none⟩) ps.length cl bb l.length σ kept.length n :: (slH σ 100 (kept.flatMap Smp.cs) ++ H0)) = M') := by
  have hk2 : k < ps.length := (List.getElem?_eq_some_iff.1 hp).1
  have hRl := rd_row0 hl
  have hRb := rd_rowA hb
  obtain ⟨qk, qw, qg, qs, qe, qme, qv⟩ := mayM_iff.1 hm
  simp only at qk qw qg qs qe qme qv
  have hRk : RdS (slH σ 100 (kept.flatMap Smp.cs) ++ H0) (slA σ) (kept.flatMap Smp.cs) := rdS_opt hok
  refine FnC.intro Try.func16 rfl 78 rfl (by simp) (fun z => ?_)
  refine TC.env (E' := [(0, _), (1, _), (2, _), (3, _), (4, _)]) (Sub.cons rfl (Sub.cons rfl (Sub.cons rfl (Sub.cons rfl (Sub.cons rfl (Sub.nil _)))))) ?_
  refine TC.seq ?_
  refine TC.region ?_
  refine TL.does (some 6) rfl rfl rfl (Does.box rfl rfl) ?_
  rintro _ _ ⟨b1, rfl, rfl⟩
  refine TL.does (some 7) rfl rfl rfl (Does.box rfl rfl) ?_
  rintro _ _ ⟨b2, rfl, rfl⟩
  refine TL.does (some 8) rfl rfl rfl (Does.box rfl rfl) ?_
  rintro _ _ ⟨b3, rfl, rfl⟩
  refine TL.val rfl rfl (Nat.le_of_ble_eq_true rfl) (Val.assign rfl) ?_
  refine TL.val rfl rfl (Nat.le_of_ble_eq_true rfl) (Val.assign rfl) ?_
  refine TL.nil ?_
  refine AtX.then ?_
  refine TC.env (E' := [(0, _), (4, _), (6, _), (7, _), (8, _), (10, _), (11, _)]) (Sub.cons rfl (Sub.cons rfl (Sub.cons rfl (Sub.cons rfl (Sub.cons rfl (Sub.cons rfl (Sub.cons rfl (Sub.nil _)))))))) ?_
  refine TC.seq ?_
  refine TC.seq ?_
  refine TC.region ?_
  refine TL.val rfl rfl (Nat.le_of_ble_eq_true rfl) (Val.move rfl) ?_
  first
    | refine TL.val rfl rfl (Nat.le_of_ble_eq_true rfl) (Val.load 0 rfl ag3 rfl rfl) ?_
    | refine TL.val rfl rfl (Nat.le_of_ble_eq_true rfl) (Val.load 1 rfl ag3 rfl rfl) ?_
    | refine TL.val rfl rfl (Nat.le_of_ble_eq_true rfl) (Val.load 2 rfl ag3 rfl rfl) ?_
    | refine TL.val rfl rfl (Nat.le_of_ble_eq_true rfl) (Val.load 3 rfl ag3 rfl rfl) ?_
    | refine TL.val rfl rfl (Nat.le_of_ble_eq_true rfl) (Val.load 4 rfl ag3 rfl rfl) ?_
    | refine TL.val rfl rfl (Nat.le_of_ble_eq_true rfl) (Val.load 5 rfl ag3 rfl rfl) ?_
  refine TL.does (some 16) rfl rfl rfl (Does.callF go46 rfl (has_ok b 3 c _ ps.length cl bb l.length σ kept.length n _ rfl k hk2)) ?_
  rintro _ _ ⟨rfl, rfl⟩
  refine TL.val rfl rfl (Nat.le_of_ble_eq_true rfl) (Val.assign rfl) ?_
  refine TL.nil ?_
  refine AtX.then ?_
  refine TC.env (E' := [(0, _), (4, _), (6, _), (7, _), (8, _), (10, _), (11, _), (12, _)]) (Sub.cons rfl (Sub.cons rfl (Sub.cons rfl (Sub.cons rfl (Sub.cons rfl (Sub.cons rfl (Sub.cons rfl (Sub.cons rfl (Sub.nil _))))))))) ?_
  refine TC.seq ?_
  refine TC.region ?_
  refine TL.val rfl rfl (Nat.le_of_ble_eq_true rfl) (Val.move rfl) ?_
  refine TL.val rfl rfl (Nat.le_of_ble_eq_true rfl) (Val.neqI rfl rfl) ?_
  refine TL.nil ?_
  refine AtX.then ?_
  refine TC.env (E' := [(0, _), (4, _), (6, _), (7, _), (8, _), (10, _), (11, _), (12, _), (18, _)]) (Sub.cons rfl (Sub.cons rfl (Sub.cons rfl (Sub.cons rfl (Sub.cons rfl (Sub.cons rfl (Sub.cons rfl (Sub.cons rfl (Sub.cons rfl (Sub.nil _)))))))))) ?_
  first | refine TC.condP rfl (fun c1 => ?_) (fun c1 => ?_) | refine TC.condN rfl (fun c1 => ?_) (fun c1 => ?_) | refine TC.condB rfl (fun c1 => ?_) (fun c1 => ?_) | refine TC.cond rfl (fun c1 => ?_) (fun c1 => ?_)
  · skip
    exact absurd rfl c1
  · skip
    refine TC.env (E' := [(0, _), (4, _), (6, _), (7, _), (8, _), (10, _), (11, _)]) (Sub.cons rfl (Sub.cons rfl (Sub.cons rfl (Sub.cons rfl (Sub.cons rfl (Sub.cons rfl (Sub.cons rfl (Sub.nil _)))))))) ?_
    refine TC.skip ?_
    refine AtX.then ?_
    refine TC.env (E' := [(0, _), (4, _), (6, _), (7, _), (8, _), (10, _), (11, _)]) (Sub.cons rfl (Sub.cons rfl (Sub.cons rfl (Sub.cons rfl (Sub.cons rfl (Sub.cons rfl (Sub.cons rfl (Sub.nil _)))))))) ?_
    refine TC.seq ?_
    refine TC.drawLM mixed 8 ?_
    refine TA.tk 0 1 rfl rfl rfl (Val.move rfl) ?_
    refine TA.tk 1 3 rfl rfl rfl (Val.nilCheck rfl) ?_
    refine TA.tk 2 7 rfl rfl rfl (Val.fieldAddr rfl fl94_1 sz86 rfl) ?_
    first
      | refine TA.tk 3 15 rfl rfl rfl (Val.load 0 rfl ag86 rfl rfl) ?_
      | refine TA.tk 3 15 rfl rfl rfl (Val.load 1 rfl ag86 rfl rfl) ?_
      | refine TA.tk 3 15 rfl rfl rfl (Val.load 2 rfl ag86 rfl rfl) ?_
      | refine TA.tk 3 15 rfl rfl rfl (Val.load 3 rfl ag86 rfl rfl) ?_
      | refine TA.tk 3 15 rfl rfl rfl (Val.load 4 rfl ag86 rfl rfl) ?_
      | refine TA.tk 3 15 rfl rfl rfl (Val.load 5 rfl ag86 rfl rfl) ?_
    first
      | refine TA.tk 4 31 rfl rfl rfl (Val.load 0 rfl ag3 rfl rfl) ?_
      | refine TA.tk 4 31 rfl rfl rfl (Val.load 1 rfl ag3 rfl rfl) ?_
      | refine TA.tk 4 31 rfl rfl rfl (Val.load 2 rfl ag3 rfl rfl) ?_
      | refine TA.tk 4 31 rfl rfl rfl (Val.load 3 rfl ag3 rfl rfl) ?_
      | refine TA.tk 4 31 rfl rfl rfl (Val.load 4 rfl ag3 rfl rfl) ?_
      | refine TA.tk 4 31 rfl rfl rfl (Val.load 5 rfl ag3 rfl rfl) ?_
    refine TA.tk 5 63 rfl rfl rfl (Val.indexAddr (i := k) (r := k) rfl rfl sl86 sz57 rfl hk2 (by omega)) ?_
    refine TA.tk 6 127 rfl rfl rfl (Val.loadRd (o := 0) (j := k) rfl ag57 (Rd.cons _ (Rd.cons _ (Rd.cons _ (Rd.cons _ (Rd.app _ hRl))))) (by omega) hp) ?_
    refine TA.tk 7 255 rfl rfl rfl (Val.assign rfl) ?_
    refine TA.done (by kernel_rfl) ?_
    refine AtX.then ?_
    refine TC.env (E' := [(0, _), (4, _), (6, _), (7, _), (8, _), (10, _), (11, _), (13, _)]) (Sub.cons rfl (Sub.cons rfl (Sub.cons rfl (Sub.cons rfl (Sub.cons rfl (Sub.cons rfl (Sub.cons rfl (Sub.cons rfl (Sub.nil _))))))))) ?_
    refine TC.seq ?_
    refine TC.seq ?_
    refine TC.drawLM mixed 12 ?_
    first
      | refine TA.tk 0 1 rfl rfl rfl (Val.load 0 rfl ag3 rfl rfl) ?_
      | refine TA.tk 0 1 rfl rfl rfl (Val.load 1 rfl ag3 rfl rfl) ?_
      | refine TA.tk 0 1 rfl rfl rfl (Val.load 2 rfl ag3 rfl rfl) ?_
      | refine TA.tk 0 1 rfl rfl rfl (Val.load 3 rfl ag3 rfl rfl) ?_
      | refine TA.tk 0 1 rfl rfl rfl (Val.load 4 rfl ag3 rfl rfl) ?_
      | refine TA.tk 0 1 rfl rfl rfl (Val.load 5 rfl ag3 rfl rfl) ?_
    refine TA.tk 1 3 rfl rfl rfl (Val.move rfl) ?_
    refine TA.tk 3 11 rfl rfl rfl (Val.move rfl) ?_
    first
      | refine TA.tk 6 75 rfl rfl rfl (Val.load 0 rfl ag2 rfl rfl) ?_
      | refine TA.tk 6 75 rfl rfl rfl (Val.load 1 rfl ag2 rfl rfl) ?_
      | refine TA.tk 6 75 rfl rfl rfl (Val.load 2 rfl ag2 rfl rfl) ?_
      | refine TA.tk 6 75 rfl rfl rfl (Val.load 3 rfl ag2 rfl rfl) ?_
      | refine TA.tk 6 75 rfl rfl rfl (Val.load 4 rfl ag2 rfl rfl) ?_
      | refine TA.tk 6 75 rfl rfl rfl (Val.load 5 rfl ag2 rfl rfl) ?_
    refine TA.tk 7 203 rfl rfl rfl (Val.move rfl) ?_
    first
      | refine TA.tk 8 459 rfl rfl rfl (Val.load 0 rfl ag3 rfl rfl) ?_
      | refine TA.tk 8 459 rfl rfl rfl (Val.load 1 rfl ag3 rfl rfl) ?_
      | refine TA.tk 8 459 rfl rfl rfl (Val.load 2 rfl ag3 rfl rfl) ?_
      | refine TA.tk 8 459 rfl rfl rfl (Val.load 3 rfl ag3 rfl rfl) ?_
      | refine TA.tk 8 459 rfl rfl rfl (Val.load 4 rfl ag3 rfl rfl) ?_
      | refine TA.tk 8 459 rfl rfl rfl (Val.load 5 rfl ag3 rfl rfl) ?_
    refine TA.one 2 (by kernel_rfl) ?_
    refine TO.dz 463 (some 29) rfl rfl rfl rfl (Does.callF go48 rfl (Gen_fn sb _ s (k : Nat) g q _ (get_app4 hs))) ?_
    rintro _ _ ⟨rfl, rfl⟩
    refine roK ?_
    refine TA.one 4 (by kernel_rfl) ?_
    refine TO.dz 479 (some 31) rfl rfl rfl rfl (Does.callF go49 rfl (Seq_fn sb _ s (k : Nat) g q _ (get_app4 hs))) ?_
    rintro _ _ ⟨rfl, rfl⟩
    refine roK ?_
    refine TA.tk 5 511 rfl rfl rfl (Val.add rfl rfl (r := q + 1) (w_i64 (by omega) (by omega))) ?_
    refine TA.tk 9 1023 rfl rfl rfl (Val.buildS pl61 ze61 rfl rfl) ?_
    refine TA.one 10 (by kernel_rfl) ?_
    refine TO.dz 2047 (some 37) rfl rfl rfl rfl (Does.callF go47 rfl (May_true ⟨1, (k : Nat), g, q + 1, e, v, me⟩ _ hm)) ?_
    rintro _ _ ⟨rfl, rfl⟩
    refine roK ?_
    refine TA.tk 11 4095 rfl rfl rfl (Val.not rfl) ?_
    refine TA.done (by kernel_rfl) ?_
    refine AtX.then ?_
    refine TC.env (E' := [(0, _), (4, _), (6, _), (7, _), (8, _), (10, _), (11, _), (13, _), (38, _)]) (Sub.cons rfl (Sub.cons rfl (Sub.cons rfl (Sub.cons rfl (Sub.cons rfl (Sub.cons rfl (Sub.cons rfl (Sub.cons rfl (Sub.cons rfl (Sub.nil _)))))))))) ?_
    first | refine TC.condP rfl (fun c2 => ?_) (fun c2 => ?_) | refine TC.condN rfl (fun c2 => ?_) (fun c2 => ?_) | refine TC.condB rfl (fun c2 => ?_) (fun c2 => ?_) | refine TC.cond rfl (fun c2 => ?_) (fun c2 => ?_)
    · skip
      cases c2
    · skip
      refine TC.env (E' := [(0, _), (4, _), (6, _), (7, _), (8, _), (10, _), (11, _), (13, _)]) (Sub.cons rfl (Sub.cons rfl (Sub.cons rfl (Sub.cons rfl (Sub.cons rfl (Sub.cons rfl (Sub.cons rfl (Sub.cons rfl (Sub.nil _))))))))) ?_
      refine TC.skip ?_
      refine AtX.then ?_
      refine TC.env (E' := [(0, _), (4, _), (6, _), (7, _), (8, _), (10, _), (11, _), (13, _)]) (Sub.cons rfl (Sub.cons rfl (Sub.cons rfl (Sub.cons rfl (Sub.cons rfl (Sub.cons rfl (Sub.cons rfl (Sub.cons rfl (Sub.nil _))))))))) ?_
      refine TC.seq ?_
      refine TC.seq ?_
      refine TC.drawLM mixed 8 ?_
      refine TA.tk 0 1 rfl rfl rfl (Val.move rfl) ?_
      refine TA.tk 1 3 rfl rfl rfl (Val.nilCheck rfl) ?_
      refine TA.tk 2 7 rfl rfl rfl (Val.fieldAddr rfl fl94_2 sz85 rfl) ?_
      first
        | refine TA.tk 3 15 rfl rfl rfl (Val.load 0 rfl ag85 rfl rfl) ?_
        | refine TA.tk 3 15 rfl rfl rfl (Val.load 1 rfl ag85 rfl rfl) ?_
        | refine TA.tk 3 15 rfl rfl rfl (Val.load 2 rfl ag85 rfl rfl) ?_
        | refine TA.tk 3 15 rfl rfl rfl (Val.load 3 rfl ag85 rfl rfl) ?_
        | refine TA.tk 3 15 rfl rfl rfl (Val.load 4 rfl ag85 rfl rfl) ?_
        | refine TA.tk 3 15 rfl rfl rfl (Val.load 5 rfl ag85 rfl rfl) ?_
      first
        | refine TA.tk 4 31 rfl rfl rfl (Val.load 0 rfl ag3 rfl rfl) ?_
        | refine TA.tk 4 31 rfl rfl rfl (Val.load 1 rfl ag3 rfl rfl) ?_
        | refine TA.tk 4 31 rfl rfl rfl (Val.load 2 rfl ag3 rfl rfl) ?_
        | refine TA.tk 4 31 rfl rfl rfl (Val.load 3 rfl ag3 rfl rfl) ?_
        | refine TA.tk 4 31 rfl rfl rfl (Val.load 4 rfl ag3 rfl rfl) ?_
        | refine TA.tk 4 31 rfl rfl rfl (Val.load 5 rfl ag3 rfl rfl) ?_
      refine TA.tk 5 63 rfl rfl rfl (Val.indexAddr (i := k) (r := k) rfl rfl sl85 sz4 rfl (by omega) (by omega)) ?_
      refine TA.tk 6 127 rfl rfl rfl (Val.loadRd (o := 0) (j := k) (v := .bool false) rfl ag4 (Rd.cons _ (Rd.cons _ (Rd.cons _ (Rd.cons _ (Rd.app _ hRb))))) (by omega) (map_get hx)) ?_
      refine TA.tk 7 255 rfl rfl rfl (Val.not rfl) ?_
      refine TA.done (by kernel_rfl) ?_
      refine AtX.then ?_
      refine TC.env (E' := [(0, _), (4, _), (6, _), (7, _), (8, _), (10, _), (11, _), (13, _), (46, _)]) (Sub.cons rfl (Sub.cons rfl (Sub.cons rfl (Sub.cons rfl (Sub.cons rfl (Sub.cons rfl (Sub.cons rfl (Sub.cons rfl (Sub.cons rfl (Sub.nil _)))))))))) ?_
      first | refine TC.condP rfl (fun c3 => ?_) (fun c3 => ?_) | refine TC.condN rfl (fun c3 => ?_) (fun c3 => ?_) | refine TC.condB rfl (fun c3 => ?_) (fun c3 => ?_) | refine TC.cond rfl (fun c3 => ?_) (fun c3 => ?_)
      · skip
        refine TC.env (E' := [(0, _), (4, _), (6, _), (7, _), (8, _), (10, _), (11, _), (13, _)]) (Sub.cons rfl (Sub.cons rfl (Sub.cons rfl (Sub.cons rfl (Sub.cons rfl (Sub.cons rfl (Sub.cons rfl (Sub.cons rfl (Sub.nil _))))))))) ?_
        refine TC.seq ?_
        refine TC.seq ?_
        refine TC.region ?_
        refine TL.val rfl rfl (Nat.le_of_ble_eq_true rfl) (Val.move rfl) ?_
        refine TL.val rfl rfl (Nat.le_of_ble_eq_true rfl) (Val.nilCheck rfl) ?_
        refine TL.val rfl rfl (Nat.le_of_ble_eq_true rfl) (Val.fieldAddr rfl fl94_3 sz87 rfl) ?_
        first
          | refine TL.val rfl rfl (Nat.le_of_ble_eq_true rfl) (Val.load 0 rfl ag87 rfl rfl) ?_
          | refine TL.val rfl rfl (Nat.le_of_ble_eq_true rfl) (Val.load 1 rfl ag87 rfl rfl) ?_
          | refine TL.val rfl rfl (Nat.le_of_ble_eq_true rfl) (Val.load 2 rfl ag87 rfl rfl) ?_
          | refine TL.val rfl rfl (Nat.le_of_ble_eq_true rfl) (Val.load 3 rfl ag87 rfl rfl) ?_
          | refine TL.val rfl rfl (Nat.le_of_ble_eq_true rfl) (Val.load 4 rfl ag87 rfl rfl) ?_
          | refine TL.val rfl rfl (Nat.le_of_ble_eq_true rfl) (Val.load 5 rfl ag87 rfl rfl) ?_
        refine TL.val rfl rfl (Nat.le_of_ble_eq_true rfl) (Val.makeFunc rfl rfl) ?_
        refine TL.does (some 52) rfl rfl rfl (Does.callF go50 rfl (Contains_fn b1 b2 b3 2 1 0 (k : Nat) me e _ rfl rfl rfl kept _ _ _ ((((hRk.cons _).cons _).cons _).cons _) rfl hkl)) ?_
        rintro _ _ ⟨rfl, rfl⟩
        refine TL.nil ?_
        refine AtX.then ?_
        refine TC.env (E' := [(0, _), (4, _), (6, _), (7, _), (8, _), (10, _), (11, _), (13, _), (52, _)]) (Sub.cons rfl (Sub.cons rfl (Sub.cons rfl (Sub.cons rfl (Sub.cons rfl (Sub.cons rfl (Sub.cons rfl (Sub.cons rfl (Sub.cons rfl (Sub.nil _)))))))))) ?_
        first | refine TC.condP rfl (fun c4 => ?_) (fun c4 => ?_) | refine TC.condN rfl (fun c4 => ?_) (fun c4 => ?_) | refine TC.condB rfl (fun c4 => ?_) (fun c4 => ?_) | refine TC.cond rfl (fun c4 => ?_) (fun c4 => ?_)
        · skip
          refine TC.env (E' := [(0, _), (4, _), (6, _), (7, _), (8, _), (10, _), (11, _), (13, _)]) (Sub.cons rfl (Sub.cons rfl (Sub.cons rfl (Sub.cons rfl (Sub.cons rfl (Sub.cons rfl (Sub.cons rfl (Sub.cons rfl (Sub.nil _))))))))) ?_
          refine TC.seq ?_
          refine TC.region ?_
          refine TL.val rfl rfl (Nat.le_of_ble_eq_true rfl) (Val.assign rfl) ?_
          refine TL.val rfl rfl (Nat.le_of_ble_eq_true rfl) (Val.assign rfl) ?_
          refine TL.nil ?_
          refine AtX.then ?_
          refine TC.env (E' := [(0, _), (4, _), (6, _), (7, _), (8, _), (10, _), (11, _), (13, _)]) (Sub.cons rfl (Sub.cons rfl (Sub.cons rfl (Sub.cons rfl (Sub.cons rfl (Sub.cons rfl (Sub.cons rfl (Sub.cons rfl (Sub.nil _))))))))) ?_
          refine TC.ret2 (fn := Try.f16) (fun _ _ h => h) rfl (RV.tmp rfl) (RV.tmp rfl) (M' := (wob b c (some ⟨bl, 0, none⟩) ps.length cl bb l.length σ kept.length n :: (slH σ 100 (kept.flatMap Smp.cs) ++ H0))) (by repeat (first | exact ro_refl | exact ro_pre | refine ro_tail ?_ | refine ro_app ?_)) ?_
          exact ⟨rfl, rfl⟩
        · skip
          (rw [hno] at c4; cases c4)
      · skip
        cases c3

/-- (*quorumite/adverse.World).Sample -/
theorem wSample_no (b i : Nat) (c : Cf) (A : Option Addr) (nl cl bb N : Nat) (σ : Sl) (nk : Nat) (n : Int) (H : Hp) (hi : H[i]? = some (wob b c A nl cl bb N σ nk n)) (k me e v : Int) (hk : k < 0 ∨ nl ≤ k) : FnC Try.prog 16 #[.pointer (some ⟨b, 0, none⟩), .int .i64 k, .int .i64 me, .int .i64 e, .int .i64 v] H (fun u M' => u = .tuple #[.slice none 0 0, .int .i64 3] ∧ H = M') := by
  refine FnC.intro Try.func16 rfl 78 rfl (by simp) (fun z => ?_)
  refine TC.env (E' := [(0, _), (1, _), (2, _), (3, _), (4, _)]) (Sub.cons rfl (Sub.cons rfl (Sub.cons rfl (Sub.cons rfl (Sub.cons rfl (Sub.nil _)))))) ?_
  refine TC.seq ?_
  refine TC.region ?_
  refine TL.does (some 6) rfl rfl rfl (Does.box rfl rfl) ?_
  rintro _ _ ⟨b1, rfl, rfl⟩
  refine TL.does (some 7) rfl rfl rfl (Does.box rfl rfl) ?_
  rintro _ _ ⟨b2, rfl, rfl⟩
  refine TL.does (some 8) rfl rfl rfl (Does.box rfl rfl) ?_
  rintro _ _ ⟨b3, rfl, rfl⟩
  refine TL.val rfl rfl (Nat.le_of_ble_eq_true rfl) (Val.assign rfl) ?_
  refine TL.val rfl rfl (Nat.le_of_ble_eq_true rfl) (Val.assign rfl) ?_
  refine TL.nil ?_
  refine AtX.then ?_
  refine TC.env (E' := [(0, _), (4, _), (6, _), (7, _), (8, _), (10, _), (11, _)]) (Sub.cons rfl (Sub.cons rfl (Sub.cons rfl (Sub.cons rfl (Sub.cons rfl (Sub.cons rfl (Sub.cons rfl (Sub.nil _)))))))) ?_
  refine TC.seq ?_
  refine TC.seq ?_
  refine TC.region ?_
  refine TL.val rfl rfl (Nat.le_of_ble_eq_true rfl) (Val.move rfl) ?_
  first
    | refine TL.val rfl rfl (Nat.le_of_ble_eq_true rfl) (Val.load 0 rfl ag3 rfl rfl) ?_
    | refine TL.val rfl rfl (Nat.le_of_ble_eq_true rfl) (Val.load 1 rfl ag3 rfl rfl) ?_
    | refine TL.val rfl rfl (Nat.le_of_ble_eq_true rfl) (Val.load 2 rfl ag3 rfl rfl) ?_
    | refine TL.val rfl rfl (Nat.le_of_ble_eq_true rfl) (Val.load 3 rfl ag3 rfl rfl) ?_
    | refine TL.val rfl rfl (Nat.le_of_ble_eq_true rfl) (Val.load 4 rfl ag3 rfl rfl) ?_
    | refine TL.val rfl rfl (Nat.le_of_ble_eq_true rfl) (Val.load 5 rfl ag3 rfl rfl) ?_
  refine TL.does (some 16) rfl rfl rfl (Does.callF go46 rfl (has_no b (i + 3) c A nl cl bb N σ nk n _ hi k hk)) ?_
  rintro _ _ ⟨rfl, rfl⟩
  refine TL.val rfl rfl (Nat.le_of_ble_eq_true rfl) (Val.assign rfl) ?_
  refine TL.nil ?_
  refine AtX.then ?_
  refine TC.env (E' := [(0, _), (4, _), (6, _), (7, _), (8, _), (10, _), (11, _), (12, _)]) (Sub.cons rfl (Sub.cons rfl (Sub.cons rfl (Sub.cons rfl (Sub.cons rfl (Sub.cons rfl (Sub.cons rfl (Sub.cons rfl (Sub.nil _))))))))) ?_
  refine TC.seq ?_
  refine TC.region ?_
  refine TL.val rfl rfl (Nat.le_of_ble_eq_true rfl) (Val.move rfl) ?_
  refine TL.val rfl rfl (Nat.le_of_ble_eq_true rfl) (Val.neqI rfl rfl) ?_
  refine TL.nil ?_
  refine AtX.then ?_
  refine TC.env (E' := [(0, _), (4, _), (6, _), (7, _), (8, _), (10, _), (11, _), (12, _), (18, _)]) (Sub.cons rfl (Sub.cons rfl (Sub.cons rfl (Sub.cons rfl (Sub.cons rfl (Sub.cons rfl (Sub.cons rfl (Sub.cons rfl (Sub.cons rfl (Sub.nil _)))))))))) ?_
  first | refine TC.condP rfl (fun c1 => ?_) (fun c1 => ?_) | refine TC.condN rfl (fun c1 => ?_) (fun c1 => ?_) | refine TC.condB rfl (fun c1 => ?_) (fun c1 => ?_) | refine TC.cond rfl (fun c1 => ?_) (fun c1 => ?_)
  · skip
    refine TC.env (E' := [(0, _), (4, _), (6, _), (7, _), (8, _), (10, _), (11, _), (12, _)]) (Sub.cons rfl (Sub.cons rfl (Sub.cons rfl (Sub.cons rfl (Sub.cons rfl (Sub.cons rfl (Sub.cons rfl (Sub.cons rfl (Sub.nil _))))))))) ?_
    refine TC.seq ?_
    refine TC.region ?_
    refine TL.val rfl rfl (Nat.le_of_ble_eq_true rfl) (Val.move rfl) ?_
    refine TL.val rfl rfl (Nat.le_of_ble_eq_true rfl) (Val.assign rfl) ?_
    refine TL.val rfl rfl (Nat.le_of_ble_eq_true rfl) (Val.assign rfl) ?_
    refine TL.nil ?_
    refine AtX.then ?_
    refine TC.env (E' := [(0, _), (4, _), (6, _), (7, _), (8, _), (10, _), (11, _)]) (Sub.cons rfl (Sub.cons rfl (Sub.cons rfl (Sub.cons rfl (Sub.cons rfl (Sub.cons rfl (Sub.cons rfl (Sub.nil _)))))))) ?_
    refine TC.ret2 (fn := Try.f16) (fun _ _ h => h) rfl (RV.tmp rfl) (RV.tmp rfl) (M' := H) (by repeat (first | exact ro_refl | exact ro_pre | refine ro_tail ?_ | refine ro_app ?_)) ?_
    exact ⟨rfl, rfl⟩
  · skip
    (exfalso; simp at c1)

end Go.Proofs.Ytphoapajlcaoeaa
