/- Texts put together: A23, A24, A25, A26, A27, A28, A29, A30, A31, A32, A33, A34. -/
import Derived.Test.YtphoapajlcaoeaaGreatW1
import Derived.Test.YtphoapajlcaoeaaGreatG1
import Derived.Test.YtphoapajlcaoeaaGreatG2
/- walks -/
set_option linter.unusedVariables false
set_option linter.unusedSimpArgs false
set_option maxRecDepth 100000
set_option maxHeartbeats 4000000
namespace Go.Proofs.YtphoapajlcaoeaaGreat
open Go Go.X
structure On where
 gen : Int
 since : Int
abbrev On.cs (x : On) : List Value := [.int .i64 x.gen, .int .i64 x.since]
theorem On.cs_len (x : On) : x.cs.length = 2 := rfl
theorem zrep_on (n : Nat) : zrep (Value.agg #[.int .i64 0, .int .i64 0]).cells.toList n = (List.replicate n (⟨0, 0⟩ : On)).flatMap On.cs := by
 induction n with
 | zero => rfl
 | succ n ih =>
  simp only [zrep, ih, List.replicate_succ, List.flatMap_cons]
  rfl
abbrev ringO (b : Nat) (s : Int) (lb n : Nat) (gr asked : Int) : Nat × Obj := (b, .cells #[.int .u64 s, .slice (some ⟨lb, 0, none⟩) n n, .int .i64 gr, .int .i64 asked] 133 (0, 0))
abbrev repO (b : Nat) (w top bits ref : Int) : Nat × Obj := (b, .cells #[.int .i64 w, .int .i64 top, .int .u64 bits, .int .i64 ref] 129 (0, 0))
/-- quorumite/ring.New -/
theorem rNew_fn (s : Int) (n : Nat) (gr : Int) (M : Hp) (hn : 1 ≤ n ∧ n ≤ 16) (hg : 1 ≤ gr ∧ gr ≤ 100) : FnC Tryz.prog 30 #[.int .u64 s, .int .i64 (n : Nat), .int .i64 gr] M (fun v M' => ∃ b lb, v = .pointer (some ⟨b, 0, none⟩) ∧ M' = ringO b s lb n gr 0 :: (lb, row 127 ((List.replicate n (⟨0, 0⟩ : On)).flatMap On.cs)) :: M) := by
 refine FnC.intro Tryz.func30 rfl 27 rfl (by simp) (fun z => ?_)
 refine TC.en (E' := [(0, _), (1, _), (2, _)]) ?_
 refine TC.sr ?_
 refine TL.v (Val.assign rfl) ?_
 refine TL.nt ?_
 refine TC.seq ?_
 refine TC.sr ?_
 refine TL.v (Val.move rfl) ?_
 refine TL.v (Val.lss rfl rfl) ?_
 refine TL.v (Val.move rfl) ?_
 refine TL.gen (fun g1 hg1 => ?_)
 refine TL.gv rfl rfl rfl (fun hg => by subst hg; exact (Val.move rfl)) ?_
 refine TL.gv rfl rfl rfl (fun hg => by subst hg; exact (Val.gtr rfl rfl)) ?_
 refine TL.v (Val.pickOr rfl rfl rfl) ?_
 refine TL.v (Val.move rfl) ?_
 refine TL.gen (fun g2 hg2 => ?_)
 refine TL.gv rfl rfl rfl (fun hg => by subst hg; exact (Val.move rfl)) ?_
 refine TL.gv rfl rfl rfl (fun hg => by subst hg; exact (Val.lss rfl rfl)) ?_
 refine TL.v (Val.pickOr rfl rfl rfl) ?_
 refine TL.v (Val.move rfl) ?_
 refine TL.gen (fun g3 hg3 => ?_)
 refine TL.gv rfl rfl rfl (fun hg => by subst hg; exact (Val.move rfl)) ?_
 refine TL.gv rfl rfl rfl (fun hg => by subst hg; exact (Val.gtr rfl rfl)) ?_
 refine TL.v (Val.pickOr rfl rfl rfl) ?_
 refine TL.nt ?_
 refine TC.en (E' := [(0, _), (1, _), (2, _), (6, _), (20, _)]) ?_
 refine TC.cond rfl (fun c1 => ?_) (fun c1 => ?_)
 ·
  (exfalso; grind)
 ·
  refine TC.en (E' := [(0, _), (1, _), (2, _), (6, _)]) ?_
  refine TC.skip ?_
  refine AtX.then ?_
  refine TC.en (E' := [(0, _), (1, _), (2, _), (6, _)]) ?_
  refine TC.sr ?_
  refine TL.v (Val.move rfl) ?_
  refine TL.v (Val.move rfl) ?_
  refine TL.d (Does.makeSlice (n := n) (c := n) rfl rfl sl131 sz127 by127 ze127 rfl rfl rfl (by omega) (by omega) (by omega)) ?_
  rintro _ _ ⟨bl4, rfl, rfl⟩
  rw [show zrep (Value.agg #[.int .i64 0, .int .i64 0]).cells.toList n = (List.replicate n (⟨0, 0⟩ : On)).flatMap On.cs from zrep_on n]
  refine TL.v (Val.move rfl) ?_
  refine TL.v (Val.buildS (cs := [.int .u64 s, .slice (some ⟨bl4, 0, none⟩) n n, .int .i64 gr, .int .i64 0]) pl133 ze133 rfl rfl) ?_
  refine TL.d (Does.box rfl rfl) ?_
  rintro _ _ ⟨b4, rfl, rfl⟩
  refine TL.v (Val.assign rfl) ?_
  refine TL.nt ?_
  refine TC.en (E' := [(6, _)]) ?_
  refine TC.ret1 (fn := Tryz.f30) (fun _ _ h => h) rfl (RV.tmp rfl) (fun _ h => h) ?_
  exact ⟨_, bl4, rfl, rfl⟩

/-- quorumite/replay.New -/
theorem pNew_fn (w : Int) (M : Hp) (hw : 1 ≤ w ∧ w ≤ 64) : FnC Tryz.prog 31 #[.int .i64 w] M (fun v M' => ∃ b, v = .pointer (some ⟨b, 0, none⟩) ∧ M' = repO b w 0 0 0 :: M) := by
 refine FnC.intro Tryz.func31 rfl 12 rfl (by simp) (fun z => ?_)
 refine TC.en (E' := [(0, _)]) ?_
 refine TC.sr ?_
 refine TL.v (Val.assign rfl) ?_
 refine TL.nt ?_
 refine TC.seq ?_
 refine TC.sr ?_
 refine TL.v (Val.move rfl) ?_
 refine TL.v (Val.lss rfl rfl) ?_
 refine TL.v (Val.move rfl) ?_
 refine TL.gen (fun g1 hg1 => ?_)
 refine TL.gv rfl rfl rfl (fun hg => by subst hg; exact (Val.move rfl)) ?_
 refine TL.gv rfl rfl rfl (fun hg => by subst hg; exact (Val.gtr rfl rfl)) ?_
 refine TL.v (Val.pickOr rfl rfl rfl) ?_
 refine TL.nt ?_
 refine TC.en (E' := [(0, _), (2, _), (8, _)]) ?_
 refine TC.cond rfl (fun c1 => ?_) (fun c1 => ?_)
 ·
  (exfalso; grind)
 ·
  refine TC.en (E' := [(0, _), (2, _)]) ?_
  refine TC.skip ?_
  refine AtX.then ?_
  refine TC.en (E' := [(0, _), (2, _)]) ?_
  refine TC.sr ?_
  refine TL.v (Val.move rfl) ?_
  refine TL.v (Val.buildS pl129 ze129 rfl rfl) ?_
  refine TL.d (Does.box rfl rfl) ?_
  rintro _ _ ⟨b2, rfl, rfl⟩
  refine TL.v (Val.assign rfl) ?_
  refine TL.nt ?_
  refine TC.en (E' := [(2, _)]) ?_
  refine TC.ret1 (fn := Tryz.f31) (fun _ _ h => h) rfl (RV.tmp rfl) (fun _ h => h) ?_
  exact ⟨_, rfl, rfl⟩

/-- (*quorumite/ring.Ring).at -/
theorem at_fn (b lb i : Nat) (s : Int) (n : Nat) (gr asked : Int) (M : Hp) (hi : M[i]? = some (ringO b s lb n gr asked)) (k : Nat) (hk : k < n) : FnC Tryz.prog 61 #[.pointer (some ⟨b, 0, none⟩), .int .i64 (k : Nat)] M (fun v M' => v = .tuple #[.pointer (some ⟨lb, 2 * k, none⟩), .int .i64 0] ∧ M = M') := by
 refine FnC.intro Tryz.func61 rfl 27 rfl (by simp) (fun z => ?_)
 refine TC.en (E' := [(0, _), (1, _)]) ?_
 refine TC.sr ?_
 refine TL.v (Val.assign rfl) ?_
 refine TL.v (Val.assign rfl) ?_
 refine TL.nt ?_
 refine TC.seq ?_
 refine TC.block ?_
 refine TC.sr ?_
 refine TL.v (Val.move rfl) ?_
 refine TL.v (Val.eqlNil rfl rfl pt60) ?_
 refine TL.v (Val.assign rfl) ?_
 refine TL.nt ?_
 refine TC.en (E' := [(0, _), (1, _), (4, _), (5, _), (6, _)]) ?_
 refine TC.cond rfl (fun c1 => ?_) (fun c1 => ?_)
 ·
  (exfalso; simp at c1)
 ·
  refine TC.en (E' := [(0, _), (1, _), (4, _), (5, _)]) ?_
  refine TC.sr ?_
  refine TL.v (Val.move rfl) ?_
  refine TL.v (Val.lss rfl rfl) ?_
  refine TL.v (Val.move rfl) ?_
  refine TL.gen (fun g1 hg1 => ?_)
  refine TL.gv rfl rfl rfl (fun hg => by subst hg; exact (Val.move rfl)) ?_
  refine TL.gv rfl rfl rfl (fun hg => by subst hg; exact (Val.move rfl)) ?_
  refine TL.gv rfl rfl rfl (fun hg => by subst hg; exact (Val.nilCheck rfl)) ?_
  refine TL.gv rfl rfl rfl (fun hg => by subst hg; exact (Val.fieldAddr rfl fl133_1 sz131 rfl)) ?_
  refine TL.gv rfl rfl rfl (fun hg => by subst hg; exact (Val.load i rfl ag131 hi rfl)) ?_
  refine TL.gv rfl rfl rfl (fun hg => by subst hg; exact (Val.lenSl rfl rfl sl131)) ?_
  refine TL.gv rfl rfl rfl (fun hg => by subst hg; exact (Val.geq rfl rfl)) ?_
  refine TL.v (Val.pickOr rfl rfl rfl) ?_
  refine TL.v (Val.assign rfl) ?_
  refine TL.nt ?_
  refine TC.en (E' := [(0, _), (1, _), (4, _), (5, _), (9, _)]) ?_
  refine TC.cond rfl (fun c2 => ?_) (fun c2 => ?_)
  ·
   (exfalso; grind)
  ·
   refine TC.en (E' := [(0, _), (1, _), (4, _), (5, _)]) ?_
   refine TC.skip ?_
   refine AtX.blk ?_
   refine AtX.then ?_
   refine TC.en (E' := [(0, _), (1, _), (4, _), (5, _)]) ?_
   refine TC.sr ?_
   refine TL.v (Val.move rfl) ?_
   refine TL.v (Val.nilCheck rfl) ?_
   refine TL.v (Val.fieldAddr rfl fl133_1 sz131 rfl) ?_
   refine TL.v (Val.load i rfl ag131 hi rfl) ?_
   refine TL.v (Val.move rfl) ?_
   refine TL.v (Val.indexAddr (i := k) (r := 2 * k) rfl rfl sl131 sz127 rfl hk (by omega)) ?_
   refine TL.v (Val.assign rfl) ?_
   refine TL.v (Val.assign rfl) ?_
   refine TL.nt ?_
   refine TC.en (E' := [(4, _), (5, _)]) ?_
   refine TC.ret2 (fn := Tryz.f61) (fun _ _ h => h) rfl (RV.tmp rfl) (RV.tmp rfl) (fun _ h => h) ?_
   exact ⟨rfl, rfl⟩

/-- (*quorumite/ring.Ring).Gen -/
theorem rGen_fn (b lb i : Nat) (s : Int) (n : Nat) (gr asked : Int) (M : Hp) (hi : M[i]? = some (ringO b s lb n gr asked)) (l : List On) (hl : RdS M (some ⟨lb, 0, none⟩) (l.flatMap On.cs)) (hn : n = l.length) (k : Nat) (x : On) (hx : l[k]? = some x)  : FnC Tryz.prog 23 #[.pointer (some ⟨b, 0, none⟩), .int .i64 (k : Nat)] M (fun v M' => v = .int .i64 x.gen ∧ M = M') := by
 have hk : k < n := by rw [hn]; exact (List.getElem?_eq_some_iff.1 hx).1
 obtain ⟨bL, oL, hLe, hR⟩ : ∃ bL oL : Nat, (some ⟨lb, 0, none⟩ : Option Addr) = some ⟨bL, oL, none⟩ ∧ Rd M ⟨bL, oL, none⟩ (l.flatMap On.cs) := RdS.get hl (by rw [flat_len On.cs_len]; omega)
 cases hLe
 refine FnC.intro Tryz.func23 rfl 19 rfl (by simp) (fun z => ?_)
 refine TC.en (E' := [(0, _), (1, _)]) ?_
 refine TC.sr ?_
 refine TL.v (Val.assign rfl) ?_
 refine TL.nt ?_
 refine TC.sr ?_
 refine TL.v (Val.move rfl) ?_
 refine TL.v (Val.move rfl) ?_
 refine TL.d (Does.callF go61 rfl (at_fn b lb i s n gr asked _ hi k hk)) ?_
 rintro _ _ ⟨rfl, rfl⟩
 refine TL.v (Val.move rfl) ?_
 refine TL.v (Val.extract rfl rfl) ?_
 refine TL.v (Val.extract rfl rfl) ?_
 refine TL.v (Val.assign rfl) ?_
 refine TL.v (Val.assign rfl) ?_
 refine TL.nt ?_
 refine TC.en (E' := [(4, _), (5, _), (6, _)]) ?_
 refine TC.seq ?_
 refine TC.sr ?_
 refine TL.v (Val.move rfl) ?_
 refine TL.v (Val.neqI rfl rfl) ?_
 refine TL.nt ?_
 refine TC.en (E' := [(4, _), (5, _), (14, _)]) ?_
 refine TC.condP rfl (fun c1 => ?_) (fun c1 => ?_)
 ·
  exact absurd rfl c1
 ·
  refine TC.en (E' := [(4, _), (5, _)]) ?_
  refine TC.skip ?_
  refine AtX.then ?_
  refine TC.en (E' := [(4, _), (5, _)]) ?_
  refine TC.sr ?_
  refine TL.v (Val.move rfl) ?_
  refine TL.v (Val.nilCheck rfl) ?_
  refine TL.v (Val.fieldAddr rfl fl127_0 sz3 rfl) ?_
  refine TL.v (Val.loadRd (o := 0) (j := 2 * k + 0) rfl ag3 hR (by omega) ((flat_get On.cs_len hx (by decide)).trans rfl)) ?_
  refine TL.v (Val.assign rfl) ?_
  refine TL.nt ?_
  refine TC.en (E' := [(4, _)]) ?_
  refine TC.ret1 (fn := Tryz.f23) (fun _ _ h => h) rfl (RV.tmp rfl) (fun _ h => h) ?_
  exact ⟨rfl, rfl⟩

/-- quorumite/verify.sealed -/
theorem sealed_fn (m : Ms) (M : Hp) (hg : -1000000 ≤ m.gen ∧ m.gen ≤ 1000000) : FnC Tryz.prog 82 #[.agg #[.int .i64 m.kind, .int .i64 m.who, .int .i64 m.gen, .int .i64 m.seq, .int .i64 m.epoch, .int .i64 m.value, .int .i64 m.metric]] M (fun v M' => v = .int .i64 (if m.kind = 2 then m.gen - 1 else m.gen) ∧ M = M') := by
 refine FnC.intro Tryz.func82 rfl 11 rfl (by simp) (fun z => ?_)
 refine TC.en (E' := [(0, _)]) ?_
 refine TC.sr ?_
 refine TL.d (Does.box rfl rfl) ?_
 rintro _ _ ⟨b1, rfl, rfl⟩
 refine TL.v (Val.assign rfl) ?_
 refine TL.nt ?_
 refine TC.en (E' := [(1, _), (2, _)]) ?_
 refine TC.seq ?_
 refine TC.sr ?_
 refine TL.v (Val.fieldAddr rfl fl39_0 sz3 rfl) ?_
 refine TL.v (Val.load 0 rfl ag3 rfl rfl) ?_
 refine TL.v (Val.eqlI rfl rfl) ?_
 refine TL.nt ?_
 refine TC.en (E' := [(1, _), (2, _), (5, _)]) ?_
 refine TC.condP rfl (fun c1 => ?_) (fun c1 => ?_)
 ·
  refine TC.en (E' := [(1, _), (2, _)]) ?_
  refine TC.sr ?_
  refine TL.v (Val.fieldAddr rfl fl39_2 sz3 rfl) ?_
  refine TL.v (Val.load 0 rfl ag3 rfl rfl) ?_
  refine TL.v (Val.sub rfl rfl (r := m.gen - 1) (w_i64 (by omega) (by omega))) ?_
  refine TL.v (Val.assign rfl) ?_
  refine TL.nt ?_
  refine TC.en (E' := [(1, _), (2, _)]) ?_
  refine TC.ret1 (fn := Tryz.f82) (fun _ _ h => h) rfl (RV.tmp rfl) (M' := M) (by repeat (first | exact ro_refl | exact ro_pre | refine ro_tail ?_ | refine ro_app ?_)) ?_
  refine ⟨?_, rfl⟩
  first | rw [if_pos (by omega)] | rw [if_neg (by omega)]
 ·
  refine TC.en (E' := [(1, _), (2, _)]) ?_
  refine TC.skip ?_
  refine AtX.then ?_
  refine TC.en (E' := [(1, _), (2, _)]) ?_
  refine TC.sr ?_
  refine TL.v (Val.fieldAddr rfl fl39_2 sz3 rfl) ?_
  refine TL.v (Val.load 0 rfl ag3 rfl rfl) ?_
  refine TL.v (Val.assign rfl) ?_
  refine TL.nt ?_
  refine TC.en (E' := [(2, _)]) ?_
  refine TC.ret1 (fn := Tryz.f82) (fun _ _ h => h) rfl (RV.tmp rfl) (M' := M) (by repeat (first | exact ro_refl | exact ro_pre | refine ro_tail ?_ | refine ro_app ?_)) ?_
  refine ⟨?_, rfl⟩
  first | rw [if_pos (by omega)] | rw [if_neg (by omega)]

end Go.Proofs.YtphoapajlcaoeaaGreat
/- walks -/
set_option linter.unusedVariables false
set_option linter.unusedSimpArgs false
set_option maxRecDepth 100000
set_option maxHeartbeats 4000000
namespace Go.Proofs.YtphoapajlcaoeaaGreat
open Go Go.X
def okK (x : On) (gen now gr : Int) : Bool := decide (gen = x.gen) || ((decide (gen = x.gen - 1) && decide (0 ≤ gen)) && decide (now < x.since + gr))
def mayP (w top bits sq : Int) : Bool := !(decide (sq ≤ top - w)) && (decide (top < sq) || decide (bitsOf .and .u64 (bits.fdiv (2 ^ (min (IntKind.u64.wrap (top - sq)).toNat IntKind.u64.bits))) 1 = 0))
def maskP (w : Int) : Int := if w = 64 then 18446744073709551615 else IntKind.u64.wrap (IntKind.u64.wrap (1 * 2 ^ (min w.toNat IntKind.u64.bits)) - 1)
/-- (*quorumite/ring.Ring).Key -/
theorem Key_fn (b lb i : Nat) (s : Int) (n : Nat) (gr asked : Int) (M : Hp) (hi : M[i]? = some (ringO b s lb n gr asked)) (l : List On) (hl : RdS M (some ⟨lb, 0, none⟩) (l.flatMap On.cs)) (hn : n = l.length) (k : Nat) (x : On) (hx : l[k]? = some x) (gen now : Int) (hg : -1000000 ≤ x.gen ∧ x.gen ≤ 1000000) (hsi : 0 ≤ x.since ∧ x.since ≤ 1099511627776) (hgr : 0 ≤ gr ∧ gr ≤ 1000) (has : 0 ≤ asked ∧ asked ≤ 1000000) (hl2 : ∃ j, j ≠ i ∧ M[j]? = some (lb, row 127 (l.flatMap On.cs))) : FnC Tryz.prog 83 #[.pointer (some ⟨b, 0, none⟩), .int .i64 (k : Nat), .int .i64 gen, .int .i64 now] M (fun v M' => v = .tuple #[.agg #[.int .u64 (if okK x gen now gr = true then (macKey s (k : Nat) gen) else ⟨0, 0⟩).a, .int .u64 (if okK x gen now gr = true then (macKey s (k : Nat) gen) else ⟨0, 0⟩).b], .int .i64 (if okK x gen now gr = true then 0 else 4)] ∧ M' = M.set i (ringO b s lb n gr (asked + 1))) := by
 have hk : k < n := by rw [hn]; exact (List.getElem?_eq_some_iff.1 hx).1
 obtain ⟨bL, oL, hLe, hR⟩ : ∃ bL oL : Nat, (some ⟨lb, 0, none⟩ : Option Addr) = some ⟨bL, oL, none⟩ ∧ Rd M ⟨bL, oL, none⟩ (l.flatMap On.cs) := RdS.get hl (by rw [flat_len On.cs_len]; omega)
 cases hLe
 obtain ⟨j, hji, hj⟩ := hl2
 have hlt : i < M.length := (List.getElem?_eq_some_iff.1 hi).1
 obtain ⟨M2, hM2⟩ : ∃ M2, M2 = M.set i (ringO b s lb n gr (asked + 1)) := ⟨_, rfl⟩
 have hi2 : M2[i]? = some (ringO b s lb n gr (asked + 1)) := by rw [hM2]; simp [hlt]
 have hj2 : M2[j]? = some (lb, row 127 (l.flatMap On.cs)) := by rw [hM2, List.getElem?_set_ne (Ne.symm hji)]; exact hj
 have hR2 := rd_rowA hj2
 rw [← hM2]
 refine FnC.intro Tryz.func83 rfl 69 rfl (by simp) (fun z => ?_)
 refine TC.en (E' := [(0, _), (1, _), (2, _), (3, _)]) ?_
 refine TC.sr ?_
 refine TL.d (Does.alloc ze57 rfl) ?_
 rintro _ _ ⟨b1, rfl, rfl⟩
 refine TL.v (Val.assign rfl) ?_
 refine TL.nt ?_
 refine TC.sr ?_
 refine TL.v (Val.move rfl) ?_
 refine TL.v (Val.move rfl) ?_
 refine TL.d (Does.callF go61 rfl (at_fn b lb (i + 1) s n gr asked _ hi k hk)) ?_
 rintro _ _ ⟨rfl, rfl⟩
 refine TL.v (Val.move rfl) ?_
 refine TL.v (Val.extract rfl rfl) ?_
 refine TL.v (Val.extract rfl rfl) ?_
 refine TL.v (Val.assign rfl) ?_
 refine TL.v (Val.assign rfl) ?_
 refine TL.nt ?_
 refine TC.en (E' := [(0, _), (1, _), (2, _), (3, _), (8, _), (9, _), (10, _), (11, _)]) ?_
 refine TC.seq ?_
 refine TC.sr ?_
 refine TL.v (Val.move rfl) ?_
 refine TL.v (Val.neqI rfl rfl) ?_
 refine TL.nt ?_
 refine TC.en (E' := [(0, _), (1, _), (2, _), (3, _), (8, _), (9, _), (10, _), (11, _), (20, _)]) ?_
 refine TC.condP rfl (fun c1 => ?_) (fun c1 => ?_)
 ·
  exact absurd rfl c1
 ·
  refine TC.en (E' := [(0, _), (1, _), (2, _), (3, _), (8, _), (9, _), (10, _)]) ?_
  refine TC.skip ?_
  refine AtX.then ?_
  refine TC.en (E' := [(0, _), (1, _), (2, _), (3, _), (8, _), (9, _), (10, _)]) ?_
  refine TC.sr ?_
  refine TL.v (Val.move rfl) ?_
  refine TL.v (Val.nilCheck rfl) ?_
  refine TL.v (Val.fieldAddr rfl fl133_3 sz88 rfl) ?_
  refine TL.d (Does.callF go39 rfl (aAdd_fn b 3 (i + 1) _ _ asked 1 (asked + 1) _ hi rfl (w_i64 (by omega) (by omega)))) ?_
  rintro _ _ ⟨rfl, rfl⟩
  refine TL.nt ?_
  refine TC.en (E' := [(0, _), (1, _), (2, _), (3, _), (8, _), (9, _), (10, _)]) ?_
  refine TC.seq ?_
  refine TC.heap (M' := (b1, .cells #[.int .u64 0, .int .u64 0] 57 (0, 0)) :: M2) (fun w h => by rw [hM2]; exact h) ?_
  refine TC.drawLM mixed 25 ?_
  refine TA.tk 0 1 rfl rfl rfl (Val.move rfl) ?_
  refine TA.tk 1 3 rfl rfl rfl (Val.move rfl) ?_
  refine TA.tk 2 7 rfl rfl rfl (Val.nilCheck rfl) ?_
  refine TA.tk 3 15 rfl rfl rfl (Val.fieldAddr rfl fl127_0 sz3 rfl) ?_
  refine TA.tk 4 31 rfl rfl rfl (Val.loadRd (o := 0) (j := 2 * k + 0) rfl ag3 (hR2.cons _) (by omega) ((flat_get On.cs_len hx (by decide)).trans rfl)) ?_
  refine TA.tk 5 63 rfl rfl rfl (Val.sub rfl rfl (r := x.gen - 1) (w_i64 (by omega) (by omega))) ?_
  refine TA.tk 6 127 rfl rfl rfl (Val.eqlI rfl rfl) ?_
  refine TA.tk 7 255 rfl rfl rfl (Val.move rfl) ?_
  refine TA.gen (fun g4 hg4 => ?_)
  refine TA.gtk 8 511 rfl rfl rfl rfl rfl (fun hg => by subst hg; exact (Val.move rfl)) ?_
  refine TA.gtk 9 1023 rfl rfl rfl rfl rfl (fun hg => by subst hg; exact (Val.geq rfl rfl)) ?_
  refine TA.tk 10 2047 rfl rfl rfl (Val.pickAnd rfl rfl rfl) ?_
  refine TA.tk 11 4095 rfl rfl rfl (Val.move rfl) ?_
  refine TA.gen (fun g5 hg5 => ?_)
  refine TA.gtk 12 8191 rfl rfl rfl rfl rfl (fun hg => by subst hg; exact (Val.move rfl)) ?_
  refine TA.gtk 13 16383 rfl rfl rfl rfl rfl (fun hg => by subst hg; exact (Val.move rfl)) ?_
  refine TA.gtk 14 32767 rfl rfl rfl rfl rfl (fun hg => by subst hg; exact (Val.nilCheck rfl)) ?_
  refine TA.gtk 15 65535 rfl rfl rfl rfl rfl (fun hg => by subst hg; exact (Val.fieldAddr (r := 2 * k + 1) rfl fl127_1 sz2 rfl)) ?_
  refine TA.gtk 16 131071 rfl rfl rfl rfl rfl (fun hg => by subst hg; exact (Val.loadRd (o := 0) (j := 2 * k + 1) rfl ag2 (hR2.cons _) (by omega) ((flat_get On.cs_len hx (by decide)).trans rfl))) ?_
  refine TA.gtk 17 262143 rfl rfl rfl rfl rfl (fun hg => by subst hg; exact (Val.move rfl)) ?_
  refine TA.gtk 18 524287 rfl rfl rfl rfl rfl (fun hg => by subst hg; exact (Val.nilCheck rfl)) ?_
  refine TA.gtk 19 1048575 rfl rfl rfl rfl rfl (fun hg => by subst hg; exact (Val.fieldAddr rfl fl133_2 sz3 rfl)) ?_
  refine TA.gtk 20 2097151 rfl rfl rfl rfl rfl (fun hg => by subst hg; exact (Val.load (i + 1) rfl ag3 hi2 rfl)) ?_
  refine TA.gtk 21 4194303 rfl rfl rfl rfl rfl (fun hg => by subst hg; exact (Val.add rfl rfl (r := x.since + gr) (w_i64 (by omega) (by omega)))) ?_
  refine TA.gtk 22 8388607 rfl rfl rfl rfl rfl (fun hg => by subst hg; exact (Val.lss rfl rfl)) ?_
  refine TA.tk 23 16777215 rfl rfl rfl (Val.pickAnd rfl rfl rfl) ?_
  refine TA.tk 24 33554431 rfl rfl rfl (Val.assign rfl) ?_
  refine TA.done (by kernel_rfl) ?_
  refine AtX.then ?_
  refine TC.en (E' := [(0, _), (1, _), (2, _), (8, _), (9, _), (10, _), (12, _)]) ?_
  refine TC.seq ?_
  refine TC.sr ?_
  refine TL.v (Val.move rfl) ?_
  refine TL.v (Val.move rfl) ?_
  refine TL.v (Val.nilCheck rfl) ?_
  refine TL.v (Val.fieldAddr rfl fl127_0 sz3 rfl) ?_
  refine TL.v (Val.loadRd (o := 0) (j := 2 * k + 0) rfl ag3 (hR2.cons _) (by omega) ((flat_get On.cs_len hx (by decide)).trans rfl)) ?_
  refine TL.v (Val.neqI rfl rfl) ?_
  refine TL.v (Val.move rfl) ?_
  refine TL.gen (fun g6 hg6 => ?_)
  refine TL.gv rfl rfl rfl (fun hg => by subst hg; exact (Val.move rfl)) ?_
  refine TL.gv rfl rfl rfl (fun hg => by subst hg; exact (Val.not rfl)) ?_
  refine TL.v (Val.pickAnd rfl rfl rfl) ?_
  refine TL.nt ?_
  refine TC.en (E' := [(0, _), (1, _), (2, _), (8, _), (9, _), (60, _)]) ?_
  refine TC.cond rfl (fun c2 => ?_) (fun c2 => ?_)
  ·
   refine TC.en (E' := [(0, _), (1, _), (2, _), (8, _), (9, _)]) ?_
   refine TC.sr ?_
   refine TL.v (Val.buildA ar57 sz24 ze57 rfl rfl) ?_
   refine TL.d (Does.store (i := 0) rfl rfl rfl sz57 rfl rfl (by first | exact Nat.le_of_ble_eq_true rfl | decide | omega) rfl rfl) ?_
   rintro _ _ ⟨rfl, rfl⟩
   refine TL.v (Val.assign rfl) ?_
   refine TL.nt ?_
   refine TC.en (E' := [(0, _), (1, _), (2, _), (8, _), (9, _)]) ?_
   refine TC.ret2 (fn := Tryz.f83) (fun _ _ h => h) rfl (RV.agg (i := 0) rfl ag57 sz57 rfl rfl rfl) (RV.tmp rfl) (M' := M2) (by repeat (first | exact ro_refl | exact ro_pre | refine ro_tail ?_ | refine ro_app ?_)) ?_
   first | (have hok : okK x gen now gr = true := (by unfold okK; grind)) | (have hno : ¬ okK x gen now gr = true := (by unfold okK; grind))
   first | rw [if_pos hok, if_pos hok] | rw [if_neg hno, if_neg hno]
   exact ⟨rfl, rfl⟩
  ·
   refine TC.en (E' := [(0, _), (1, _), (2, _), (8, _), (9, _)]) ?_
   refine TC.skip ?_
   refine AtX.then ?_
   refine TC.en (E' := [(0, _), (1, _), (2, _), (8, _), (9, _)]) ?_
   refine TC.sr ?_
   refine TL.v (Val.move rfl) ?_
   refine TL.v (Val.nilCheck rfl) ?_
   refine TL.v (Val.fieldAddr rfl fl133_0 sz24 rfl) ?_
   refine TL.v (Val.load (i + 1) rfl ag24 hi2 rfl) ?_
   refine TL.v (Val.move rfl) ?_
   refine TL.v (Val.move rfl) ?_
   refine TL.d (Does.callF go67 rfl (Of_fn s (k : Nat) gen _)) ?_
   rintro _ _ ⟨rfl, rfl⟩
   refine TL.d (Does.store (i := 0) rfl rfl rfl sz57 rfl rfl (by first | exact Nat.le_of_ble_eq_true rfl | decide | omega) rfl rfl) ?_
   rintro _ _ ⟨rfl, rfl⟩
   refine TL.v (Val.assign rfl) ?_
   refine TL.nt ?_
   refine TC.en (E' := [(8, _), (9, _)]) ?_
   refine TC.ret2 (fn := Tryz.f83) (fun _ _ h => h) rfl (RV.agg (i := 0) rfl ag57 sz57 rfl rfl rfl) (RV.tmp rfl) (M' := M2) (by repeat (first | exact ro_refl | exact ro_pre | refine ro_tail ?_ | refine ro_app ?_)) ?_
   first | (have hok : okK x gen now gr = true := (by unfold okK; grind)) | (have hno : ¬ okK x gen now gr = true := (by unfold okK; grind))
   first | rw [if_pos hok, if_pos hok] | rw [if_neg hno, if_neg hno]
   exact ⟨rfl, rfl⟩

/-- (*quorumite/replay.Replay).May -/
theorem pMay_fn (b i : Nat) (w top bits ref : Int) (M : Hp) (hi : M[i]? = some (repO b w top bits ref)) (hw : 1 ≤ w ∧ w ≤ 64) (ht : 0 ≤ top ∧ top ≤ 1099511627776) (sq : Int) (hs : 1 ≤ sq ∧ sq ≤ 1099511627776) : FnC Tryz.prog 55 #[.pointer (some ⟨b, 0, none⟩), .int .i64 sq] M (fun v M' => v = .bool (mayP w top bits sq) ∧ M = M') := by
 refine FnC.intro Tryz.func55 rfl 50 rfl (by simp) (fun z => ?_)
 refine TC.en (E' := [(0, _), (1, _)]) ?_
 refine TC.sr ?_
 refine TL.v (Val.assign rfl) ?_
 refine TL.nt ?_
 refine TC.seq ?_
 refine TC.seq ?_
 refine TC.drawLM mixed 23 ?_
 refine TA.tk 0 1 rfl rfl rfl (Val.move rfl) ?_
 refine TA.tk 1 3 rfl rfl rfl (Val.eqlNil rfl rfl pt62) ?_
 refine TA.tk 2 7 rfl rfl rfl (Val.move rfl) ?_
 refine TA.gen (fun g1 hg1 => ?_)
 refine TA.gtk 3 15 rfl rfl rfl rfl rfl (fun hg => by subst hg; exact (Val.move rfl)) ?_
 refine TA.gtk 4 31 rfl rfl rfl rfl rfl (fun hg => by subst hg; exact (Val.lss rfl rfl)) ?_
 refine TA.tk 5 63 rfl rfl rfl (Val.pickOr rfl rfl rfl) ?_
 refine TA.tk 6 127 rfl rfl rfl (Val.move rfl) ?_
 refine TA.gen (fun g2 hg2 => ?_)
 refine TA.gtk 7 255 rfl rfl rfl rfl rfl (fun hg => by subst hg; exact (Val.move rfl)) ?_
 refine TA.gtk 8 511 rfl rfl rfl rfl rfl (fun hg => by subst hg; exact (Val.gtr rfl rfl)) ?_
 refine TA.tk 9 1023 rfl rfl rfl (Val.pickOr rfl rfl rfl) ?_
 refine TA.tk 10 2047 rfl rfl rfl (Val.move rfl) ?_
 refine TA.gen (fun g3 hg3 => ?_)
 refine TA.gtk 11 4095 rfl rfl rfl rfl rfl (fun hg => by subst hg; exact (Val.move rfl)) ?_
 refine TA.gtk 12 8191 rfl rfl rfl rfl rfl (fun hg => by subst hg; exact (Val.move rfl)) ?_
 refine TA.gtk 13 16383 rfl rfl rfl rfl rfl (fun hg => by subst hg; exact (Val.nilCheck rfl)) ?_
 refine TA.gtk 14 32767 rfl rfl rfl rfl rfl (fun hg => by subst hg; exact (Val.fieldAddr rfl fl129_1 sz2 rfl)) ?_
 refine TA.gtk 15 65535 rfl rfl rfl rfl rfl (fun hg => by subst hg; exact (Val.load i rfl ag2 hi rfl)) ?_
 refine TA.gtk 16 131071 rfl rfl rfl rfl rfl (fun hg => by subst hg; exact (Val.move rfl)) ?_
 refine TA.gtk 17 262143 rfl rfl rfl rfl rfl (fun hg => by subst hg; exact (Val.nilCheck rfl)) ?_
 refine TA.gtk 18 524287 rfl rfl rfl rfl rfl (fun hg => by subst hg; exact (Val.fieldAddr rfl fl129_0 sz3 rfl)) ?_
 refine TA.gtk 19 1048575 rfl rfl rfl rfl rfl (fun hg => by subst hg; exact (Val.load i rfl ag3 hi rfl)) ?_
 refine TA.gtk 20 2097151 rfl rfl rfl rfl rfl (fun hg => by subst hg; exact (Val.sub rfl rfl (r := top - w) (w_i64 (by omega) (by omega)))) ?_
 refine TA.gtk 21 4194303 rfl rfl rfl rfl rfl (fun hg => by subst hg; exact (Val.leq rfl rfl)) ?_
 refine TA.tk 22 8388607 rfl rfl rfl (Val.pickOr rfl rfl rfl) ?_
 refine TA.done (by kernel_rfl) ?_
 refine AtX.then ?_
 refine TC.en (E' := [(0, _), (1, _), (4, _), (27, _)]) ?_
 refine TC.cond rfl (fun c1 => ?_) (fun c1 => ?_)
 ·
  refine TC.en (E' := [(0, _), (1, _), (4, _)]) ?_
  refine TC.sr ?_
  refine TL.v (Val.assign rfl) ?_
  refine TL.nt ?_
  refine TC.en (E' := [(0, _), (1, _), (4, _)]) ?_
  refine TC.ret1 (fn := Tryz.f55) (fun _ _ h => h) rfl (RV.tmp rfl) (fun _ h => h) ?_
  refine ⟨?_, rfl⟩
  unfold mayP
  first | (have hle : sq ≤ top - w := (by grind); rw [decide_eq_true hle]; rfl) | (have hle : ¬ sq ≤ top - w := (by grind); rw [decide_eq_false hle]; subst_vars; rfl)
 ·
  refine TC.en (E' := [(0, _), (1, _), (4, _)]) ?_
  refine TC.skip ?_
  refine AtX.then ?_
  refine TC.en (E' := [(0, _), (1, _), (4, _)]) ?_
  refine TC.seq ?_
  refine TC.drawLM mixed 23 ?_
  refine TA.tk 0 1 rfl rfl rfl (Val.move rfl) ?_
  refine TA.tk 1 3 rfl rfl rfl (Val.move rfl) ?_
  refine TA.tk 2 7 rfl rfl rfl (Val.nilCheck rfl) ?_
  refine TA.tk 3 15 rfl rfl rfl (Val.fieldAddr rfl fl129_1 sz2 rfl) ?_
  refine TA.tk 4 31 rfl rfl rfl (Val.load i rfl ag2 hi rfl) ?_
  refine TA.tk 5 63 rfl rfl rfl (Val.gtr rfl rfl) ?_
  refine TA.tk 6 127 rfl rfl rfl (Val.move rfl) ?_
  refine TA.gen (fun g4 hg4 => ?_)
  refine TA.gtk 7 255 rfl rfl rfl rfl rfl (fun hg => by subst hg; exact (Val.move rfl)) ?_
  refine TA.gtk 8 511 rfl rfl rfl rfl rfl (fun hg => by subst hg; exact (Val.nilCheck rfl)) ?_
  refine TA.gtk 9 1023 rfl rfl rfl rfl rfl (fun hg => by subst hg; exact (Val.fieldAddr rfl fl129_2 sz24 rfl)) ?_
  refine TA.gtk 10 2047 rfl rfl rfl rfl rfl (fun hg => by subst hg; exact (Val.load i rfl ag24 hi rfl)) ?_
  refine TA.gtk 11 4095 rfl rfl rfl rfl rfl (fun hg => by subst hg; exact (Val.move rfl)) ?_
  refine TA.gtk 12 8191 rfl rfl rfl rfl rfl (fun hg => by subst hg; exact (Val.nilCheck rfl)) ?_
  refine TA.gtk 13 16383 rfl rfl rfl rfl rfl (fun hg => by subst hg; exact (Val.fieldAddr rfl fl129_1 sz2 rfl)) ?_
  refine TA.gtk 14 32767 rfl rfl rfl rfl rfl (fun hg => by subst hg; exact (Val.load i rfl ag2 hi rfl)) ?_
  refine TA.gtk 15 65535 rfl rfl rfl rfl rfl (fun hg => by subst hg; exact (Val.move rfl)) ?_
  refine TA.gtk 16 131071 rfl rfl rfl rfl rfl (fun hg => by subst hg; exact (Val.sub rfl rfl (r := top - sq) (w_i64 (by omega) (by omega)))) ?_
  refine TA.gtk 17 262143 rfl rfl rfl rfl rfl (fun hg => by subst hg; exact (Val.convI rfl iu2 in37 rfl)) ?_
  refine TA.gtk 18 524287 rfl rfl rfl rfl rfl (fun hg => by subst hg; exact (Val.shr rfl rfl (by rw [w_u64m]; omega) rfl)) ?_
  refine TA.gtk 19 1048575 rfl rfl rfl rfl rfl (fun hg => by subst hg; exact (Val.and rfl rfl rfl)) ?_
  refine TA.gtk 20 2097151 rfl rfl rfl rfl rfl (fun hg => by subst hg; exact (Val.eqlI rfl rfl)) ?_
  refine TA.tk 21 4194303 rfl rfl rfl (Val.pickOr rfl rfl rfl) ?_
  refine TA.tk 22 8388607 rfl rfl rfl (Val.assign rfl) ?_
  refine TA.done (by kernel_rfl) ?_
  refine AtX.then ?_
  refine TC.en (E' := [(4, _)]) ?_
  refine TC.ret1 (fn := Tryz.f55) (fun _ _ h => h) rfl (RV.tmp rfl) (fun _ h => h) ?_
  refine ⟨?_, rfl⟩
  unfold mayP
  first | (have hle : sq ≤ top - w := (by grind); rw [decide_eq_true hle]; rfl) | (have hle : ¬ sq ≤ top - w := (by grind); rw [decide_eq_false hle]; subst_vars; rfl)

/-- (*quorumite/replay.Replay).mask -/
theorem mask_fn (b i : Nat) (w top bits ref : Int) (M : Hp) (hi : M[i]? = some (repO b w top bits ref)) (hw : 1 ≤ w ∧ w ≤ 64) (ht : 0 ≤ top ∧ top ≤ 1099511627776)  : FnC Tryz.prog 84 #[.pointer (some ⟨b, 0, none⟩)] M (fun v M' => v = .int .u64 (maskP w) ∧ M = M') := by
 refine FnC.intro Tryz.func84 rfl 15 rfl (by simp) (fun z => ?_)
 refine TC.en (E' := [(0, _)]) ?_
 refine TC.sr ?_
 refine TL.v (Val.assign rfl) ?_
 refine TL.nt ?_
 refine TC.seq ?_
 refine TC.sr ?_
 refine TL.v (Val.move rfl) ?_
 refine TL.v (Val.nilCheck rfl) ?_
 refine TL.v (Val.fieldAddr rfl fl129_0 sz3 rfl) ?_
 refine TL.v (Val.load i rfl ag3 hi rfl) ?_
 refine TL.v (Val.eqlI rfl rfl) ?_
 refine TL.nt ?_
 refine TC.en (E' := [(0, _), (2, _), (7, _)]) ?_
 refine TC.condP rfl (fun c1 => ?_) (fun c1 => ?_)
 ·
  refine TC.en (E' := [(0, _), (2, _)]) ?_
  refine TC.sr ?_
  refine TL.v (Val.assign rfl) ?_
  refine TL.nt ?_
  refine TC.en (E' := [(0, _), (2, _)]) ?_
  refine TC.ret1 (fn := Tryz.f84) (fun _ _ h => h) rfl (RV.tmp rfl) (fun _ h => h) ?_
  refine ⟨?_, rfl⟩
  unfold maskP
  first | rw [if_pos (by assumption)] | rw [if_neg (by assumption)]
 ·
  refine TC.en (E' := [(0, _), (2, _)]) ?_
  refine TC.skip ?_
  refine AtX.then ?_
  refine TC.en (E' := [(0, _), (2, _)]) ?_
  refine TC.sr ?_
  refine TL.v (Val.move rfl) ?_
  refine TL.v (Val.nilCheck rfl) ?_
  refine TL.v (Val.fieldAddr rfl fl129_0 sz3 rfl) ?_
  refine TL.v (Val.load i rfl ag3 hi rfl) ?_
  refine TL.v (Val.convI rfl iu3 in37 (w_u64 (by omega) (by omega))) ?_
  refine TL.v (Val.shl rfl rfl (by omega) rfl) ?_
  refine TL.v (Val.sub rfl rfl rfl) ?_
  refine TL.v (Val.assign rfl) ?_
  refine TL.nt ?_
  refine TC.en (E' := [(2, _)]) ?_
  refine TC.ret1 (fn := Tryz.f84) (fun _ _ h => h) rfl (RV.tmp rfl) (fun _ h => h) ?_
  refine ⟨?_, rfl⟩
  unfold maskP
  first | rw [if_pos (by assumption)] | rw [if_neg (by assumption)]

end Go.Proofs.YtphoapajlcaoeaaGreat
/- walks -/
set_option linter.unusedVariables false
set_option linter.unusedSimpArgs false
set_option maxRecDepth 100000
set_option maxHeartbeats 4000000
namespace Go.Proofs.YtphoapajlcaoeaaGreat
open Go Go.X
def nextB (w bits : Int) : Int := bitsOf .or .u64 (bitsOf .and .u64 (IntKind.u64.wrap (bits * 2 ^ 1)) (maskP w)) (IntKind.u64.wrap (1 * 2 ^ 0))
/-- (*quorumite/replay.Replay).Take -/
theorem pTake_next (b : Nat) (w top bits ref : Int) (M : Hp) (hw : 1 ≤ w ∧ w ≤ 64) (ht : 0 ≤ top ∧ top ≤ 1000000) (hmay : mayP w top bits (top + 1) = true) : FnC Tryz.prog 57 #[.pointer (some ⟨b, 0, none⟩), .int .i64 (top + 1)] (repO b w top bits ref :: M) (fun v M' => v = .int .i64 0 ∧ M' = repO b w (top + 1) (nextB w bits) ref :: M) := by
 refine FnC.intro Tryz.func57 rfl 69 rfl (by simp) (fun z => ?_)
 refine TC.en (E' := [(0, _), (1, _)]) ?_
 refine TC.sr ?_
 refine TL.v (Val.assign rfl) ?_
 refine TL.nt ?_
 refine TC.seq ?_
 refine TC.block ?_
 refine TC.sr ?_
 refine TL.v (Val.move rfl) ?_
 refine TL.v (Val.eqlNil rfl rfl pt62) ?_
 refine TL.v (Val.assign rfl) ?_
 refine TL.nt ?_
 refine TC.en (E' := [(0, _), (1, _), (4, _), (6, _)]) ?_
 refine TC.cond rfl (fun c1 => ?_) (fun c1 => ?_)
 ·
  (exfalso; simp at c1)
 ·
  refine TC.en (E' := [(0, _), (1, _), (4, _)]) ?_
  refine TC.sr ?_
  refine TL.v (Val.move rfl) ?_
  refine TL.v (Val.move rfl) ?_
  refine TL.d (Does.callF go55 rfl (pMay_fn b 0 w top bits ref _ rfl hw ⟨by omega, by omega⟩ (top + 1) ⟨by omega, by omega⟩)) ?_
  rintro _ _ ⟨rfl, rfl⟩
  rw [hmay]
  refine TL.v (Val.not rfl) ?_
  refine TL.v (Val.assign rfl) ?_
  refine TL.nt ?_
  refine TC.en (E' := [(0, _), (1, _), (4, _), (9, _)]) ?_
  refine TC.condB rfl (fun c2 => ?_) (fun c2 => ?_)
  ·
   cases c2
  ·
   refine TC.en (E' := [(0, _), (1, _), (4, _)]) ?_
   refine TC.skip ?_
   refine AtX.blk ?_
   refine AtX.then ?_
   refine TC.en (E' := [(0, _), (1, _), (4, _)]) ?_
   refine TC.seq ?_
   refine TC.sr ?_
   refine TL.v (Val.move rfl) ?_
   refine TL.v (Val.move rfl) ?_
   refine TL.v (Val.nilCheck rfl) ?_
   refine TL.v (Val.fieldAddr rfl fl129_1 sz2 rfl) ?_
   refine TL.v (Val.load 0 rfl ag2 rfl rfl) ?_
   refine TL.v (Val.sub rfl rfl (r := 1) (by rw [w_i64 (by omega) (by omega)]; omega)) ?_
   refine TL.v (Val.assign rfl) ?_
   refine TL.nt ?_
   refine TC.en (E' := [(0, _), (1, _), (4, _), (5, _)]) ?_
   refine TC.sr ?_
   refine TL.v (Val.move rfl) ?_
   refine TL.v (Val.gtr rfl rfl) ?_
   refine TL.nt ?_
   refine TC.en (E' := [(0, _), (1, _), (4, _), (5, _), (25, _)]) ?_
   refine TC.condP rfl (fun c3 => ?_) (fun c3 => ?_)
   ·
    refine TC.en (E' := [(0, _), (1, _), (4, _), (5, _)]) ?_
    refine TC.seq ?_
    refine TC.sr ?_
    refine TL.v (Val.move rfl) ?_
    refine TL.v (Val.nilCheck rfl) ?_
    refine TL.v (Val.fieldAddr rfl fl129_2 sz24 rfl) ?_
    refine TL.v (Val.load 0 rfl ag24 rfl rfl) ?_
    refine TL.v (Val.move rfl) ?_
    refine TL.v (Val.min rfl rfl (r := 1) rfl) ?_
    refine TL.v (Val.convI rfl iu2 in37 (r := 1) rfl) ?_
    refine TL.v (Val.shl rfl rfl (by omega) (r := IntKind.u64.wrap (bits * 2 ^ 1)) rfl) ?_
    refine TL.v (Val.nilCheck rfl) ?_
    refine TL.v (Val.fieldAddr rfl fl129_2 sz24 rfl) ?_
    refine TL.d (Does.store (i := 0) rfl rfl rfl sz24 rfl rfl (by first | exact Nat.le_of_ble_eq_true rfl | decide | omega) rfl rfl) ?_
    rintro _ _ ⟨rfl, rfl⟩
    refine TL.nt ?_
    refine TC.en (E' := [(0, _), (1, _), (4, _), (5, _)]) ?_
    refine TC.sr ?_
    refine TL.v (Val.move rfl) ?_
    refine TL.v (Val.geq rfl rfl) ?_
    refine TL.nt ?_
    refine TC.en (E' := [(0, _), (1, _), (4, _), (37, _)]) ?_
    refine TC.condP rfl (fun c4 => ?_) (fun c4 => ?_)
    ·
     (exfalso; omega)
    ·
     refine TC.en (E' := [(0, _), (1, _), (4, _)]) ?_
     refine TC.skip ?_
     refine AtX.then ?_
     refine TC.en (E' := [(0, _), (1, _), (4, _)]) ?_
     refine TC.seq ?_
     refine TC.heap (M' := repO b w top (IntKind.u64.wrap (bits * 2 ^ 1)) ref :: M) (fun w h => h) ?_
     refine TC.drawG [9] M mixed 10 ?_
     refine TG.tk false 0 1 rfl rfl rfl (Val.move rfl) ?_
     refine TG.tk false 1 3 rfl rfl rfl (Val.nilCheck rfl) ?_
     refine TG.tk false 2 7 rfl rfl rfl (Val.fieldAddr rfl fl129_2 sz24 rfl) ?_
     refine TG.tk false 3 15 rfl rfl rfl (Val.load 0 rfl ag24 rfl rfl) ?_
     refine TG.tk false 4 31 rfl rfl rfl (Val.move rfl) ?_
     refine TG.one 5 (by kernel_rfl) ?_
     refine TP.dz false 63 (some 46) rfl rfl rfl rfl (Does.callF go84 rfl (mask_fn b 0 w top (IntKind.u64.wrap (bits * 2 ^ 1)) ref _ rfl hw ⟨by omega, by omega⟩)) ?_
     rintro _ _ ⟨rfl, rfl⟩
     refine roK ?_
     refine TG.tk false 6 127 rfl rfl rfl (Val.and rfl rfl rfl) ?_
     refine TG.tw false 7 255 rfl rfl rfl (Val.nilCheck rfl) ?_
     refine TG.tk false 8 511 rfl rfl rfl (Val.fieldAddr rfl fl129_2 sz24 rfl) ?_
     refine TG.one 9 (by kernel_rfl) ?_
     refine TP.dz true 1023 none rfl rfl rfl rfl (Does.store (i := 0) rfl rfl rfl sz24 rfl rfl (by first | exact Nat.le_of_ble_eq_true rfl | decide | omega) rfl rfl) ?_
     rintro _ _ ⟨rfl, rfl⟩
     refine roK ?_
     refine TG.done (by kernel_rfl) ?_ _
     refine AtX.then ?_
     refine TC.en (E' := [(0, _), (1, _), (4, _)]) ?_
     refine TC.region ?_
     refine TL.v (Val.move rfl) ?_
     refine TL.v (Val.move rfl) ?_
     refine TL.v (Val.nilCheck rfl) ?_
     refine TL.v (Val.fieldAddr rfl fl129_1 sz2 rfl) ?_
     refine TL.d (Does.store (i := 0) rfl rfl rfl sz2 rfl rfl (by first | exact Nat.le_of_ble_eq_true rfl | decide | omega) rfl rfl) ?_
     rintro _ _ ⟨rfl, rfl⟩
     refine TL.nt ?_
     refine TC.en (E' := [(0, _), (1, _), (4, _)]) ?_
     refine TC.seq ?_
     refine TC.heap (M' := repO b w (top + 1) (bitsOf .and .u64 (IntKind.u64.wrap (bits * 2 ^ 1)) (maskP w)) ref :: M) (fun w h => h) ?_
     refine TC.drawG [15] M mixed 16 ?_
     refine TG.tk false 0 1 rfl rfl rfl (Val.move rfl) ?_
     refine TG.tk false 1 3 rfl rfl rfl (Val.nilCheck rfl) ?_
     refine TG.tk false 2 7 rfl rfl rfl (Val.fieldAddr rfl fl129_2 sz24 rfl) ?_
     refine TG.tk false 3 15 rfl rfl rfl (Val.load 0 rfl ag24 rfl rfl) ?_
     refine TG.tk false 4 31 rfl rfl rfl (Val.move rfl) ?_
     refine TG.tk false 5 63 rfl rfl rfl (Val.nilCheck rfl) ?_
     refine TG.tk false 6 127 rfl rfl rfl (Val.fieldAddr rfl fl129_1 sz2 rfl) ?_
     refine TG.tk false 7 255 rfl rfl rfl (Val.load 0 rfl ag2 rfl rfl) ?_
     refine TG.tk false 8 511 rfl rfl rfl (Val.move rfl) ?_
     refine TG.tk false 9 1023 rfl rfl rfl (Val.sub rfl rfl (r := 0) (by rw [w_i64 (by omega) (by omega)]; omega)) ?_
     refine TG.tk false 10 2047 rfl rfl rfl (Val.convI rfl iu2 in37 (r := 0) rfl) ?_
     refine TG.tk false 11 4095 rfl rfl rfl (Val.shl rfl rfl (by omega) (r := IntKind.u64.wrap (1 * 2 ^ 0)) rfl) ?_
     refine TG.tk false 12 8191 rfl rfl rfl (Val.or rfl rfl rfl) ?_
     refine TG.tw false 13 16383 rfl rfl rfl (Val.nilCheck rfl) ?_
     refine TG.tk false 14 32767 rfl rfl rfl (Val.fieldAddr rfl fl129_2 sz24 rfl) ?_
     refine TG.one 15 (by kernel_rfl) ?_
     refine TP.dz true 65535 none rfl rfl rfl rfl (Does.store (i := 0) rfl rfl rfl sz24 rfl rfl (by first | exact Nat.le_of_ble_eq_true rfl | decide | omega) rfl rfl) ?_
     rintro _ _ ⟨rfl, rfl⟩
     refine roK ?_
     refine TG.done (by kernel_rfl) ?_ _
     refine AtX.then ?_
     refine TC.en (E' := [(4, _)]) ?_
     refine TC.sr ?_
     refine TL.v (Val.assign rfl) ?_
     refine TL.nt ?_
     refine TC.en (E' := [(4, _)]) ?_
     refine TC.ret1 (fn := Tryz.f57) (fun _ _ h => h) rfl (RV.tmp rfl) (fun _ h => h) ?_
     exact ⟨rfl, rfl⟩
   ·
    (exfalso; omega)

/-- (*quorumite/replay.Replay).Take -/
theorem pTake_no (b : Nat) (w top bits ref : Int) (M : Hp) (hw : 1 ≤ w ∧ w ≤ 64) (ht : 0 ≤ top ∧ top ≤ 1000000) (sq : Int) (hs : 1 ≤ sq ∧ sq ≤ 1099511627776) (hr : 0 ≤ ref ∧ ref ≤ 1000000) (hmay : mayP w top bits sq = false) : FnC Tryz.prog 57 #[.pointer (some ⟨b, 0, none⟩), .int .i64 sq] (repO b w top bits ref :: M) (fun v M' => v = .int .i64 6 ∧ M' = repO b w top bits (ref + 1) :: M) := by
 refine FnC.intro Tryz.func57 rfl 69 rfl (by simp) (fun z => ?_)
 refine TC.en (E' := [(0, _), (1, _)]) ?_
 refine TC.sr ?_
 refine TL.v (Val.assign rfl) ?_
 refine TL.nt ?_
 refine TC.seq ?_
 refine TC.block ?_
 refine TC.sr ?_
 refine TL.v (Val.move rfl) ?_
 refine TL.v (Val.eqlNil rfl rfl pt62) ?_
 refine TL.v (Val.assign rfl) ?_
 refine TL.nt ?_
 refine TC.en (E' := [(0, _), (1, _), (4, _), (6, _)]) ?_
 refine TC.cond rfl (fun c1 => ?_) (fun c1 => ?_)
 ·
  (exfalso; simp at c1)
 ·
  refine TC.en (E' := [(0, _), (1, _), (4, _)]) ?_
  refine TC.sr ?_
  refine TL.v (Val.move rfl) ?_
  refine TL.v (Val.move rfl) ?_
  refine TL.d (Does.callF go55 rfl (pMay_fn b 0 w top bits ref _ rfl hw ⟨by omega, by omega⟩ sq hs)) ?_
  rintro _ _ ⟨rfl, rfl⟩
  rw [hmay]
  refine TL.v (Val.not rfl) ?_
  refine TL.v (Val.assign rfl) ?_
  refine TL.nt ?_
  refine TC.en (E' := [(0, _), (1, _), (4, _), (9, _)]) ?_
  refine TC.condB rfl (fun c2 => ?_) (fun c2 => ?_)
  ·
   refine TC.en (E' := [(0, _), (1, _), (4, _)]) ?_
   refine TC.sr ?_
   refine TL.v (Val.move rfl) ?_
   refine TL.v (Val.nilCheck rfl) ?_
   refine TL.v (Val.fieldAddr rfl fl129_3 sz88 rfl) ?_
   refine TL.d (Does.callF go39 rfl (aAdd_fn b 3 0 _ _ ref 1 (ref + 1) _ rfl rfl (w_i64 (by omega) (by omega)))) ?_
   rintro _ _ ⟨rfl, rfl⟩
   refine TL.nt ?_
   refine TC.en (E' := [(0, _), (1, _), (4, _)]) ?_
   refine TC.sr ?_
   refine TL.v (Val.assign rfl) ?_
   refine TL.nt ?_
   refine TC.en (E' := [(0, _), (1, _), (4, _)]) ?_
   refine TC.ret1 (fn := Tryz.f57) (fun _ _ h => h) rfl (RV.tmp rfl) (fun _ h => h) ?_
   exact ⟨rfl, rfl⟩
  ·
   cases c2

/-- (*quorumite/replay.Replay).Top -/
theorem pTop_fn (b i : Nat) (w top bits ref : Int) (M : Hp) (hi : M[i]? = some (repO b w top bits ref)) : FnC Tryz.prog 25 #[.pointer (some ⟨b, 0, none⟩)] M (fun v M' => v = .int .i64 top ∧ M = M') := by
 refine FnC.intro Tryz.func25 rfl 9 rfl (by simp) (fun z => ?_)
 refine TC.en (E' := [(0, _)]) ?_
 refine TC.sr ?_
 refine TL.v (Val.assign rfl) ?_
 refine TL.nt ?_
 refine TC.seq ?_
 refine TC.sr ?_
 refine TL.v (Val.move rfl) ?_
 refine TL.v (Val.eqlNil rfl rfl pt62) ?_
 refine TL.nt ?_
 refine TC.en (E' := [(0, _), (2, _), (4, _)]) ?_
 refine TC.cond rfl (fun c1 => ?_) (fun c1 => ?_)
 ·
  (exfalso; simp at c1)
 ·
  refine TC.en (E' := [(0, _), (2, _)]) ?_
  refine TC.skip ?_
  refine AtX.then ?_
  refine TC.en (E' := [(0, _), (2, _)]) ?_
  refine TC.sr ?_
  refine TL.v (Val.move rfl) ?_
  refine TL.v (Val.nilCheck rfl) ?_
  refine TL.v (Val.fieldAddr rfl fl129_1 sz2 rfl) ?_
  refine TL.v (Val.load i rfl ag2 hi rfl) ?_
  refine TL.v (Val.assign rfl) ?_
  refine TL.nt ?_
  refine TC.en (E' := [(2, _)]) ?_
  refine TC.ret1 (fn := Tryz.f25) (fun _ _ h => h) rfl (RV.tmp rfl) (fun _ h => h) ?_
  exact ⟨rfl, rfl⟩

/-- (*quorumite/ring.Ring).Rotate -/
theorem rRotate_fn (b lb i : Nat) (s : Int) (n : Nat) (gr asked : Int) (M : Hp) (hi : M[i]? = some (ringO b s lb n gr asked)) (j : Nat) (l : List On) (hj : M[j]? = some (lb, row 127 (l.flatMap On.cs))) (hn : n = l.length) (k : Nat) (x : On) (hx : l[k]? = some x) (gen now : Int) (hg : gen = x.gen + 1 ∧ 0 ≤ gen ∧ gen ≤ 60000) (hnow : 0 ≤ now ∧ now ≤ 1099511627776) : FnC Tryz.prog 56 #[.pointer (some ⟨b, 0, none⟩), .int .i64 (k : Nat), .int .i64 gen, .int .i64 now] M (fun v M' => v = .int .i64 0 ∧ M' = M.set j (lb, row 127 ((l.set k ⟨gen, now⟩).flatMap On.cs))) := by
 have hkl : k < l.length := (List.getElem?_eq_some_iff.1 hx).1
 have hk : k < n := by omega
 have hR := rd_rowA hj
 refine FnC.intro Tryz.func56 rfl 45 rfl (by simp) (fun z => ?_)
 refine TC.en (E' := [(0, _), (1, _), (2, _), (3, _)]) ?_
 refine TC.sr ?_
 refine TL.v (Val.assign rfl) ?_
 refine TL.nt ?_
 refine TC.sr ?_
 refine TL.v (Val.move rfl) ?_
 refine TL.v (Val.move rfl) ?_
 refine TL.d (Does.callF go61 rfl (at_fn b lb i s n gr asked _ hi k hk)) ?_
 rintro _ _ ⟨rfl, rfl⟩
 refine TL.v (Val.move rfl) ?_
 refine TL.v (Val.extract rfl rfl) ?_
 refine TL.v (Val.extract rfl rfl) ?_
 refine TL.v (Val.assign rfl) ?_
 refine TL.v (Val.assign rfl) ?_
 refine TL.nt ?_
 refine TC.en (E' := [(2, _), (3, _), (8, _), (9, _), (10, _)]) ?_
 refine TC.seq ?_
 refine TC.block ?_
 refine TC.sr ?_
 refine TL.v (Val.move rfl) ?_
 refine TL.v (Val.neqI rfl rfl) ?_
 refine TL.v (Val.assign rfl) ?_
 refine TL.nt ?_
 refine TC.en (E' := [(2, _), (3, _), (8, _), (9, _), (10, _), (17, _)]) ?_
 refine TC.condP rfl (fun c1 => ?_) (fun c1 => ?_)
 ·
  exact absurd rfl c1
 ·
  refine TC.en (E' := [(2, _), (3, _), (8, _), (9, _)]) ?_
  refine TC.sr ?_
  refine TL.v (Val.move rfl) ?_
  refine TL.v (Val.move rfl) ?_
  refine TL.v (Val.nilCheck rfl) ?_
  refine TL.v (Val.fieldAddr rfl fl127_0 sz3 rfl) ?_
  refine TL.v (Val.loadRd (o := 0) (j := 2 * k + 0) rfl ag3 hR (by omega) ((flat_get On.cs_len hx (by decide)).trans rfl)) ?_
  refine TL.v (Val.add rfl rfl (r := x.gen + 1) (w_i64 (by omega) (by omega))) ?_
  refine TL.v (Val.neqI rfl rfl) ?_
  refine TL.v (Val.move rfl) ?_
  refine TL.gen (fun g2 hg2 => ?_)
  refine TL.gv rfl rfl rfl (fun hg => by subst hg; exact (Val.move rfl)) ?_
  refine TL.gv rfl rfl rfl (fun hg => by subst hg; exact (Val.gtr rfl rfl)) ?_
  refine TL.v (Val.pickOr rfl rfl rfl) ?_
  refine TL.v (Val.assign rfl) ?_
  refine TL.nt ?_
  refine TC.en (E' := [(2, _), (3, _), (8, _), (9, _), (21, _)]) ?_
  refine TC.cond rfl (fun c2 => ?_) (fun c2 => ?_)
  ·
   (exfalso; grind)
  ·
   refine TC.en (E' := [(2, _), (3, _), (8, _), (9, _)]) ?_
   refine TC.sr ?_
   refine TL.v (Val.move rfl) ?_
   refine TL.v (Val.lss rfl rfl) ?_
   refine TL.v (Val.move rfl) ?_
   refine TL.gen (fun g3 hg3 => ?_)
   refine TL.gv rfl rfl rfl (fun hg => by subst hg; exact (Val.move rfl)) ?_
   refine TL.gv rfl rfl rfl (fun hg => by subst hg; exact (Val.gtr rfl rfl)) ?_
   refine TL.v (Val.pickOr rfl rfl rfl) ?_
   refine TL.v (Val.assign rfl) ?_
   refine TL.nt ?_
   refine TC.en (E' := [(2, _), (3, _), (8, _), (9, _), (33, _)]) ?_
   refine TC.cond rfl (fun c3 => ?_) (fun c3 => ?_)
   ·
    (exfalso; grind)
   ·
    refine TC.en (E' := [(2, _), (3, _), (8, _), (9, _)]) ?_
    refine TC.skip ?_
    refine AtX.blk ?_
    refine AtX.then ?_
    refine TC.en (E' := [(2, _), (3, _), (8, _), (9, _)]) ?_
    refine TC.sr ?_
    refine TL.v (Val.move rfl) ?_
    refine TL.v (Val.move rfl) ?_
    refine TL.v (Val.move rfl) ?_
    refine TL.v (Val.buildS pl127 ze127 rfl rfl) ?_
    refine TL.v (Val.nilCheck rfl) ?_
    refine TL.d (Does.storeR j rfl rfl hj sz127 rfl rfl (by rw [flat_len On.cs_len]; omega) (flat_set On.cs_len hkl ⟨gen, now⟩)) ?_
    rintro _ _ ⟨rfl, rfl⟩
    refine TL.nt ?_
    refine TC.en (E' := [(8, _)]) ?_
    refine TC.sr ?_
    refine TL.v (Val.assign rfl) ?_
    refine TL.nt ?_
    refine TC.en (E' := [(8, _)]) ?_
    refine TC.ret1 (fn := Tryz.f56) (fun _ _ h => h) rfl (RV.tmp rfl) (fun _ h => h) ?_
    exact ⟨rfl, rfl⟩

/-- quorumite/quorumitelaw8.out -/
theorem out_fn (k : Int) (M : Hp) : FnC Tryz.prog 45 #[.int .i64 k] M (fun v M' => v = .bool (decide (k = 2)) ∧ M = M') := by
 refine FnC.intro Tryz.func45 rfl 5 rfl (by simp) (fun z => ?_)
 refine TC.en (E' := [(0, _)]) ?_
 refine TC.sr ?_
 refine TL.v (Val.assign rfl) ?_
 refine TL.nt ?_
 refine TC.sr ?_
 refine TL.v (Val.move rfl) ?_
 refine TL.v (Val.eqlI rfl rfl) ?_
 refine TL.v (Val.assign rfl) ?_
 refine TL.nt ?_
 refine TC.en (E' := [(2, _)]) ?_
 refine TC.ret1 (fn := Tryz.f45) (fun _ _ h => h) rfl (RV.tmp rfl) (fun _ h => h) ?_
 exact ⟨rfl, rfl⟩

end Go.Proofs.YtphoapajlcaoeaaGreat
/- walks -/
set_option linter.unusedVariables false
set_option linter.unusedSimpArgs false
set_option maxRecDepth 100000
set_option maxHeartbeats 4000000
namespace Go.Proofs.YtphoapajlcaoeaaGreat
open Go Go.X
abbrev gateO (gb : Nat) (c : Cf) (rb : Nat) (A : Option Addr) (n1 c1 : Nat) (B : Option Addr) (n2 c2 : Nat) (ref : Int) : Nat × Obj := (gb, .cells #[.int .i64 (c.n), .int .i64 (c.f), .int .i64 (c.m), .int .i64 (c.quorum), .int .i64 (c.fresh), .int .i64 (c.grace), .int .i64 (c.window), .int .i64 (c.t0), .int .i64 (c.t1), .int .i64 (c.t2), .int .i64 (c.t3), .int .i64 (c.tol), .int .i64 (c.min), .int .i64 (c.max), .int .i64 (c.calmup), .int .i64 (c.calmdown), .int .i64 (c.podsup), .int .i64 (c.pctup), .int .i64 (c.podsdown), .int .i64 (c.pctdown), .int .i64 (c.period), .int .i64 (c.far), .int .i64 (c.strikes), .int .i64 (c.probe), .int .i64 (c.sectors), .int .u64 (c.seed), .pointer (some ⟨rb, 0, none⟩), .slice A n1 c1, .slice B n2 c2, .int .i64 ref] 90 (0, 0))
abbrev pp (b : Nat) : Value := .pointer (some ⟨b, 0, none⟩)
/-- quorumite/verify.New -/
theorem gNew_fn (c : Cf) (N : Nat) (M : Hp) (hc : OkC c) (hN : c.n = N) : FnC Tryz.prog 6 #[.agg #[.int .i64 (c.n), .int .i64 (c.f), .int .i64 (c.m), .int .i64 (c.quorum), .int .i64 (c.fresh), .int .i64 (c.grace), .int .i64 (c.window), .int .i64 (c.t0), .int .i64 (c.t1), .int .i64 (c.t2), .int .i64 (c.t3), .int .i64 (c.tol), .int .i64 (c.min), .int .i64 (c.max), .int .i64 (c.calmup), .int .i64 (c.calmdown), .int .i64 (c.podsup), .int .i64 (c.pctup), .int .i64 (c.podsdown), .int .i64 (c.pctdown), .int .i64 (c.period), .int .i64 (c.far), .int .i64 (c.strikes), .int .i64 (c.probe), .int .i64 (c.sectors), .int .u64 (c.seed)]] M (fun v M' => ∃ (gb rb lb nb cn : Nat) (sn : List Value) (ob co : Nat) (so : List Value) (nws ols : List Nat), v = .pointer (some ⟨gb, 0, none⟩) ∧ nws.length = N ∧ ols.length = N ∧ M' = gateO gb c rb (some ⟨nb, 0, none⟩) N cn (some ⟨ob, 0, none⟩) N co 0 :: ringO rb c.seed lb N c.grace 0 :: (lb, row 127 ((List.replicate N (⟨0, 0⟩ : On)).flatMap On.cs)) :: (nb, row 62 (nws.map pp ++ sn)) :: (ob, row 62 (ols.map pp ++ so)) :: ((nws.map fun p => repO p c.window 0 0 0) ++ ((ols.map fun p => repO p c.window 0 0 0) ++ M))) := by
 have hn16 := hc.n
 have hgr := hc.grace
 have hwin := hc.window
 refine FnC.intro Tryz.func6 rfl 47 rfl (by simp) (fun z => ?_)
 refine TC.en (E' := [(0, _)]) ?_
 refine TC.sr ?_
 refine TL.d (Does.box rfl rfl) ?_
 rintro _ _ ⟨b1, rfl, rfl⟩
 refine TL.v (Val.assign rfl) ?_
 refine TL.nt ?_
 refine TC.en (E' := [(1, _), (2, _)]) ?_
 refine TC.seq ?_
 refine TC.sr ?_
 refine TL.v (Val.loadAgg 0 rfl ag26 sz26 rfl rfl rfl) ?_
 refine TL.d (Does.callF go29 rfl (cMay_ok c _ hc)) ?_
 rintro _ _ ⟨rfl, rfl⟩
 refine TL.v (Val.not rfl) ?_
 refine TL.nt ?_
 refine TC.en (E' := [(1, _), (2, _), (6, _)]) ?_
 refine TC.condB rfl (fun c1 => ?_) (fun c1 => ?_)
 ·
  cases c1
 ·
  refine TC.en (E' := [(1, _), (2, _)]) ?_
  refine TC.skip ?_
  refine AtX.then ?_
  refine TC.en (E' := [(1, _), (2, _)]) ?_
  refine TC.seq ?_
  refine TC.drawL ((b1, .cells #[.int .i64 (c.n), .int .i64 (c.f), .int .i64 (c.m), .int .i64 (c.quorum), .int .i64 (c.fresh), .int .i64 (c.grace), .int .i64 (c.window), .int .i64 (c.t0), .int .i64 (c.t1), .int .i64 (c.t2), .int .i64 (c.t3), .int .i64 (c.tol), .int .i64 (c.min), .int .i64 (c.max), .int .i64 (c.calmup), .int .i64 (c.calmdown), .int .i64 (c.podsup), .int .i64 (c.pctup), .int .i64 (c.podsdown), .int .i64 (c.pctdown), .int .i64 (c.period), .int .i64 (c.far), .int .i64 (c.strikes), .int .i64 (c.probe), .int .i64 (c.sectors), .int .u64 (c.seed)] 26 (0, 0)) :: M) mixed 11 ?_
  refine TA.tk 0 1 rfl rfl rfl (Val.loadAgg (vs := [.int .i64 (c.n), .int .i64 (c.f), .int .i64 (c.m), .int .i64 (c.quorum), .int .i64 (c.fresh), .int .i64 (c.grace), .int .i64 (c.window), .int .i64 (c.t0), .int .i64 (c.t1), .int .i64 (c.t2), .int .i64 (c.t3), .int .i64 (c.tol), .int .i64 (c.min), .int .i64 (c.max), .int .i64 (c.calmup), .int .i64 (c.calmdown), .int .i64 (c.podsup), .int .i64 (c.pctup), .int .i64 (c.podsdown), .int .i64 (c.pctdown), .int .i64 (c.period), .int .i64 (c.far), .int .i64 (c.strikes), .int .i64 (c.probe), .int .i64 (c.sectors), .int .u64 (c.seed)]) 0 rfl ag26 sz26 rfl rfl rfl) ?_
  refine TA.tk 1 3 rfl rfl rfl (Val.fieldAddr rfl fl26_22 sz24 rfl) ?_
  refine TA.tk 2 7 rfl rfl rfl (Val.load 0 rfl ag24 rfl rfl) ?_
  refine TA.tk 3 15 rfl rfl rfl (Val.fieldAddr rfl fl26_0 sz3 rfl) ?_
  refine TA.tk 4 31 rfl rfl rfl (Val.same (v' := .int .i64 (N : Nat)) (Val.load 0 rfl ag3 rfl rfl) (by rw [hN])) ?_
  refine TA.tk 5 63 rfl rfl rfl (Val.fieldAddr rfl fl26_5 sz3 rfl) ?_
  refine TA.tk 6 127 rfl rfl rfl (Val.load 0 rfl ag3 rfl rfl) ?_
  refine TA.one 7 (by kernel_rfl) ?_
  refine TO.dz 255 (some 14) rfl rfl rfl rfl (Does.callF go30 rfl (rNew_fn c.seed N c.grace _ ⟨by omega, by omega⟩ hgr)) ?_
  rintro _ _ ⟨rb, lb, rfl, rfl⟩
  refine roK ?_
  refine TA.tk 8 511 rfl rfl rfl (Val.buildS (cs := [.int .i64 (c.n), .int .i64 (c.f), .int .i64 (c.m), .int .i64 (c.quorum), .int .i64 (c.fresh), .int .i64 (c.grace), .int .i64 (c.window), .int .i64 (c.t0), .int .i64 (c.t1), .int .i64 (c.t2), .int .i64 (c.t3), .int .i64 (c.tol), .int .i64 (c.min), .int .i64 (c.max), .int .i64 (c.calmup), .int .i64 (c.calmdown), .int .i64 (c.podsup), .int .i64 (c.pctup), .int .i64 (c.podsdown), .int .i64 (c.pctdown), .int .i64 (c.period), .int .i64 (c.far), .int .i64 (c.strikes), .int .i64 (c.probe), .int .i64 (c.sectors), .int .u64 (c.seed), .pointer (some ⟨rb, 0, none⟩), .slice none 0 0, .slice none 0 0, .int .i64 0]) pl90 ze90 rfl (fill_step (pre := []) (mid := [.int .i64 (0), .int .i64 (0), .int .i64 (0), .int .i64 (0), .int .i64 (0), .int .i64 (0), .int .i64 (0), .int .i64 (0), .int .i64 (0), .int .i64 (0), .int .i64 (0), .int .i64 (0), .int .i64 (0), .int .i64 (0), .int .i64 (0), .int .i64 (0), .int .i64 (0), .int .i64 (0), .int .i64 (0), .int .i64 (0), .int .i64 (0), .int .i64 (0), .int .i64 (0), .int .i64 (0), .int .i64 (0), .int .u64 (0)]) (post := [.pointer none, .slice none 0 0, .slice none 0 0, .int .i64 0]) rfl rfl rfl rfl (fill_step (pre := [.int .i64 (c.n), .int .i64 (c.f), .int .i64 (c.m), .int .i64 (c.quorum), .int .i64 (c.fresh), .int .i64 (c.grace), .int .i64 (c.window), .int .i64 (c.t0), .int .i64 (c.t1), .int .i64 (c.t2), .int .i64 (c.t3), .int .i64 (c.tol), .int .i64 (c.min), .int .i64 (c.max), .int .i64 (c.calmup), .int .i64 (c.calmdown), .int .i64 (c.podsup), .int .i64 (c.pctup), .int .i64 (c.podsdown), .int .i64 (c.pctdown), .int .i64 (c.period), .int .i64 (c.far), .int .i64 (c.strikes), .int .i64 (c.probe), .int .i64 (c.sectors), .int .u64 (c.seed)]) (mid := [.pointer none]) (post := [.slice none 0 0, .slice none 0 0, .int .i64 0]) rfl rfl rfl rfl rfl))) ?_
  refine TA.one 9 (by kernel_rfl) ?_
  refine TO.dz 1023 (some 16) rfl rfl rfl rfl (Does.box rfl rfl) ?_
  rintro _ _ ⟨gb, rfl, rfl⟩
  refine roK ?_
  refine TA.tk 10 2047 rfl rfl rfl (Val.assign rfl) ?_
  refine TA.done (by kernel_rfl) ?_
  refine AtX.then ?_
  refine TC.en (E' := [(1, _), (2, _), (3, _)]) ?_
  refine TC.seq ?_
  refine TC.seq ?_
  refine TC.heap (M' := gateO gb c rb none 0 0 none 0 0 0 :: ringO rb c.seed lb N c.grace 0 :: (lb, row 127 ((List.replicate N (⟨0, 0⟩ : On)).flatMap On.cs)) :: (b1, .cells #[.int .i64 (c.n), .int .i64 (c.f), .int .i64 (c.m), .int .i64 (c.quorum), .int .i64 (c.fresh), .int .i64 (c.grace), .int .i64 (c.window), .int .i64 (c.t0), .int .i64 (c.t1), .int .i64 (c.t2), .int .i64 (c.t3), .int .i64 (c.tol), .int .i64 (c.min), .int .i64 (c.max), .int .i64 (c.calmup), .int .i64 (c.calmdown), .int .i64 (c.podsup), .int .i64 (c.pctup), .int .i64 (c.podsdown), .int .i64 (c.pctdown), .int .i64 (c.period), .int .i64 (c.far), .int .i64 (c.strikes), .int .i64 (c.probe), .int .i64 (c.sectors), .int .u64 (c.seed)] 26 (0, 0)) :: M) (fun w h => h) ?_
  refine TC.region ?_
  refine TL.v (Val.fieldAddr rfl fl26_0 sz3 rfl) ?_
  refine TL.v (Val.load 3 rfl ag3 rfl rfl) ?_
  refine TL.v (Val.move rfl) ?_
  refine TL.nt ?_
  refine TC.en (E' := [(1, _), (2, _), (3, _), (18, _), (19, _)]) ?_
  refine TC.block ?_
  refine TC.loop (ι := (Nat × Sl × Sl × List Nat × List Nat)) (fun i => [(1, .pointer (some ⟨b1, 0, none⟩)), (3, .pointer (some ⟨gb, 0, none⟩)), (18, .int .i64 c.n), (19, .int .i64 (i.1 : Nat))]) (fun i => gateO gb c rb (slA i.2.1) i.1 (slC i.2.1) (slA i.2.2.1) i.1 (slC i.2.2.1) 0 :: ringO rb c.seed lb N c.grace 0 :: (lb, row 127 ((List.replicate N (⟨0, 0⟩ : On)).flatMap On.cs)) :: (b1, .cells #[.int .i64 (c.n), .int .i64 (c.f), .int .i64 (c.m), .int .i64 (c.quorum), .int .i64 (c.fresh), .int .i64 (c.grace), .int .i64 (c.window), .int .i64 (c.t0), .int .i64 (c.t1), .int .i64 (c.t2), .int .i64 (c.t3), .int .i64 (c.tol), .int .i64 (c.min), .int .i64 (c.max), .int .i64 (c.calmup), .int .i64 (c.calmdown), .int .i64 (c.podsup), .int .i64 (c.pctup), .int .i64 (c.podsdown), .int .i64 (c.pctdown), .int .i64 (c.period), .int .i64 (c.far), .int .i64 (c.strikes), .int .i64 (c.probe), .int .i64 (c.sectors), .int .u64 (c.seed)] 26 (0, 0)) :: (slH i.2.1 62 (i.2.2.2.1.map pp) ++ (slH i.2.2.1 62 (i.2.2.2.2.map pp) ++ ((i.2.2.2.1.map fun p => repO p c.window 0 0 0) ++ ((i.2.2.2.2.map fun p => repO p c.window 0 0 0) ++ M))))) (fun i => i.1 ≤ N ∧ i.2.2.2.1.length = i.1 ∧ i.2.2.2.2.length = i.1 ∧ slOk i.2.1 1 i.1 (i.2.2.2.1.map pp) ∧ slOk i.2.2.1 1 i.1 (i.2.2.2.2.map pp)) (fun i => N - i.1) (0, none, none, [], []) ?_ (Sub.cons rfl (Sub.cons rfl (Sub.cons rfl (Sub.cons rfl (Sub.nil _))))) (fun _ h => h) ?_
  · exact ⟨by omega, rfl, rfl, slOk_nil 1, slOk_nil 1⟩
  rintro ⟨k, σ, τ, nws, ols⟩ ⟨hk, hnl, hol, hok, hokt⟩
  dsimp only at hk hnl hol hok hokt ⊢
  refine TC.sr ?_
  refine TL.v (Val.lss rfl rfl) ?_
  refine TL.nt ?_
  refine TC.seq ?_
  refine TC.condP rfl (fun c2 => ?_) (fun c2 => ?_)
  ·
   refine TC.skip ?_
   refine AtX.then ?_
   refine TC.seq ?_
   refine TC.block ?_
   refine TC.drawGM [22, 25] [gateO gb c rb (slA σ) k (slC σ) (slA τ) k (slC τ) 0, ringO rb c.seed lb N c.grace 0, (lb, row 127 ((List.replicate N (⟨0, 0⟩ : On)).flatMap On.cs)), (b1, .cells #[.int .i64 (c.n), .int .i64 (c.f), .int .i64 (c.m), .int .i64 (c.quorum), .int .i64 (c.fresh), .int .i64 (c.grace), .int .i64 (c.window), .int .i64 (c.t0), .int .i64 (c.t1), .int .i64 (c.t2), .int .i64 (c.t3), .int .i64 (c.tol), .int .i64 (c.min), .int .i64 (c.max), .int .i64 (c.calmup), .int .i64 (c.calmdown), .int .i64 (c.podsup), .int .i64 (c.pctup), .int .i64 (c.podsdown), .int .i64 (c.pctdown), .int .i64 (c.period), .int .i64 (c.far), .int .i64 (c.strikes), .int .i64 (c.probe), .int .i64 (c.sectors), .int .u64 (c.seed)] 26 (0, 0))] [(b1, .cells #[.int .i64 (c.n), .int .i64 (c.f), .int .i64 (c.m), .int .i64 (c.quorum), .int .i64 (c.fresh), .int .i64 (c.grace), .int .i64 (c.window), .int .i64 (c.t0), .int .i64 (c.t1), .int .i64 (c.t2), .int .i64 (c.t3), .int .i64 (c.tol), .int .i64 (c.min), .int .i64 (c.max), .int .i64 (c.calmup), .int .i64 (c.calmdown), .int .i64 (c.podsup), .int .i64 (c.pctup), .int .i64 (c.podsdown), .int .i64 (c.pctdown), .int .i64 (c.period), .int .i64 (c.far), .int .i64 (c.strikes), .int .i64 (c.probe), .int .i64 (c.sectors), .int .u64 (c.seed)] 26 (0, 0))] mixed 26 ?_
   refine TG.tk false 0 1 rfl rfl rfl (Val.move rfl) ?_ (hro := (by repeat (first | exact Go.X.ro_pre4 | exact Go.X.ro_pre1 | refine Go.X.ro_tail ?_ | refine Go.X.ro_app ?_)))
   refine TG.tw false 1 3 rfl rfl rfl (Val.move rfl) ?_ (hro := (by repeat (first | exact Go.X.ro_pre4 | exact Go.X.ro_pre1 | refine Go.X.ro_tail ?_ | refine Go.X.ro_app ?_)))
   refine TG.tk false 2 7 rfl rfl rfl (Val.move rfl) ?_ (hro := (by repeat (first | exact Go.X.ro_pre4 | exact Go.X.ro_pre1 | refine Go.X.ro_tail ?_ | refine Go.X.ro_app ?_)))
   refine TG.tk false 3 15 rfl rfl rfl (Val.nilCheck rfl) ?_ (hro := (by repeat (first | exact Go.X.ro_pre4 | exact Go.X.ro_pre1 | refine Go.X.ro_tail ?_ | refine Go.X.ro_app ?_)))
   refine TG.tk false 4 31 rfl rfl rfl (Val.fieldAddr rfl fl90_2 sz83 rfl) ?_ (hro := (by repeat (first | exact Go.X.ro_pre4 | exact Go.X.ro_pre1 | refine Go.X.ro_tail ?_ | refine Go.X.ro_app ?_)))
   refine TG.tk false 5 63 rfl rfl rfl (Val.load 0 rfl ag83 rfl rfl) ?_ (hro := (by repeat (first | exact Go.X.ro_pre4 | exact Go.X.ro_pre1 | refine Go.X.ro_tail ?_ | refine Go.X.ro_app ?_)))
   refine TG.tk false 6 127 rfl rfl rfl (Val.fieldAddr rfl fl26_6 sz3 rfl) ?_ (hro := (by repeat (first | exact Go.X.ro_pre4 | exact Go.X.ro_pre1 | refine Go.X.ro_tail ?_ | refine Go.X.ro_app ?_)))
   refine TG.tk false 7 255 rfl rfl rfl (Val.load 3 rfl ag3 rfl rfl) ?_ (hro := (by repeat (first | exact Go.X.ro_pre4 | exact Go.X.ro_pre1 | refine Go.X.ro_tail ?_ | refine Go.X.ro_app ?_)))
   refine TG.tw false 11 2303 rfl rfl rfl (Val.move rfl) ?_ (hro := (by repeat (first | exact Go.X.ro_pre4 | exact Go.X.ro_pre1 | refine Go.X.ro_tail ?_ | refine Go.X.ro_app ?_)))
   refine TG.tw false 12 6399 rfl rfl rfl (Val.nilCheck rfl) ?_ (hro := (by repeat (first | exact Go.X.ro_pre4 | exact Go.X.ro_pre1 | refine Go.X.ro_tail ?_ | refine Go.X.ro_app ?_)))
   refine TG.tw false 13 14591 rfl rfl rfl (Val.fieldAddr rfl fl90_3 sz83 rfl) ?_ (hro := (by repeat (first | exact Go.X.ro_pre4 | exact Go.X.ro_pre1 | refine Go.X.ro_tail ?_ | refine Go.X.ro_app ?_)))
   refine TG.tk false 14 30975 rfl rfl rfl (Val.load 0 rfl ag83 rfl rfl) ?_ (hro := (by repeat (first | exact Go.X.ro_pre4 | exact Go.X.ro_pre1 | refine Go.X.ro_tail ?_ | refine Go.X.ro_app ?_)))
   refine TG.tw false 15 63743 rfl rfl rfl (Val.fieldAddr rfl fl26_6 sz3 rfl) ?_ (hro := (by repeat (first | exact Go.X.ro_pre4 | exact Go.X.ro_pre1 | refine Go.X.ro_tail ?_ | refine Go.X.ro_app ?_)))
   refine TG.tw false 16 129279 rfl rfl rfl (Val.load 0 rfl ag3 rfl rfl) ?_ (hro := (by repeat (first | exact Go.X.ro_pre4 | exact Go.X.ro_pre1 | refine Go.X.ro_tail ?_ | refine Go.X.ro_app ?_)))
   refine TG.one 8 (by kernel_rfl) ?_
   refine TP.dz false 129535 (some 29) rfl rfl rfl rfl (Does.callF go31 rfl (pNew_fn c.window _ hwin)) ?_
   rintro _ _ ⟨pb, rfl, rfl⟩
   refine ⟨(by repeat (first | exact Go.X.ro_pre4 | exact Go.X.ro_pre1 | refine Go.X.ro_tail ?_ | refine Go.X.ro_app ?_)), ?_⟩
   refine TG.one 9 (by kernel_rfl) ?_
   refine TP.dz false 130047 (some 30) rfl rfl rfl rfl (Does.buildSlice sl83 sz62 ze62 (by decide) (by decide) rfl rfl rfl) ?_
   rintro _ _ ⟨bt, rfl, rfl⟩
   refine ⟨(by repeat (first | exact Go.X.ro_pre4 | exact Go.X.ro_pre1 | refine Go.X.ro_tail ?_ | refine Go.X.ro_app ?_)), ?_⟩
   refine TG.one 10 (by kernel_rfl) ?_
   refine TP.dz false 131071 (some 31) rfl rfl rfl rfl (Does.appendS (xs := nws.map pp) (ys := [.pointer (some ⟨pb, 0, none⟩)]) σ (repO pb c.window 0 0 0 :: gateO gb c rb (slA σ) k (slC σ) (slA τ) k (slC τ) 0 :: ringO rb c.seed lb N c.grace 0 :: (lb, row 127 ((List.replicate N (⟨0, 0⟩ : On)).flatMap On.cs)) :: (b1, .cells #[.int .i64 (c.n), .int .i64 (c.f), .int .i64 (c.m), .int .i64 (c.quorum), .int .i64 (c.fresh), .int .i64 (c.grace), .int .i64 (c.window), .int .i64 (c.t0), .int .i64 (c.t1), .int .i64 (c.t2), .int .i64 (c.t3), .int .i64 (c.tol), .int .i64 (c.min), .int .i64 (c.max), .int .i64 (c.calmup), .int .i64 (c.calmdown), .int .i64 (c.podsup), .int .i64 (c.pctup), .int .i64 (c.podsdown), .int .i64 (c.pctdown), .int .i64 (c.period), .int .i64 (c.far), .int .i64 (c.strikes), .int .i64 (c.probe), .int .i64 (c.sectors), .int .u64 (c.seed)] 26 (0, 0)) :: (slH τ 62 (ols.map pp) ++ ((nws.map fun p => repO p c.window 0 0 0) ++ ((ols.map fun p => repO p c.window 0 0 0) ++ M)))) (fun w h => ro_mv (A := [_, _, _, _, _]) w h.drop) rfl rfl sl83 sz62 by62 ze62 rfl hok (.inl ⟨_, _, rfl, ⟨62, us83⟩, .some (Rd.get (i := 0) rfl rfl)⟩) rfl (one_ptr pb) (by omega) (by omega)) ?_
   rintro _ _ ⟨σ1, rfl, hok1, rfl⟩
   refine ⟨(by repeat (first | exact Go.X.ro_pre4 | exact Go.X.ro_pre1 | refine Go.X.ro_tail ?_ | refine Go.X.ro_app ?_)), ?_⟩
   refine TG.one 17 (by kernel_rfl) ?_
   refine TP.dz false 262143 (some 38) rfl rfl rfl rfl (Does.callF go31 rfl (pNew_fn c.window _ hwin)) ?_
   rintro _ _ ⟨qb, rfl, rfl⟩
   refine ⟨(by repeat (first | exact Go.X.ro_pre4 | exact Go.X.ro_pre1 | refine Go.X.ro_tail ?_ | refine Go.X.ro_app ?_)), ?_⟩
   refine TG.one 18 (by kernel_rfl) ?_
   refine TP.dz false 524287 (some 39) rfl rfl rfl rfl (Does.buildSlice sl83 sz62 ze62 (by decide) (by decide) rfl rfl rfl) ?_
   rintro _ _ ⟨bu, rfl, rfl⟩
   refine ⟨(by repeat (first | exact Go.X.ro_pre4 | exact Go.X.ro_pre1 | refine Go.X.ro_tail ?_ | refine Go.X.ro_app ?_)), ?_⟩
   refine TG.one 19 (by kernel_rfl) ?_
   refine TP.dz false 1048575 (some 40) rfl rfl rfl rfl (Does.appendS (xs := ols.map pp) (ys := [.pointer (some ⟨qb, 0, none⟩)]) τ (repO qb c.window 0 0 0 :: (slH σ1 62 (nws.map pp ++ [.pointer (some ⟨pb, 0, none⟩)]) ++ (repO pb c.window 0 0 0 :: gateO gb c rb (slA σ) k (slC σ) (slA τ) k (slC τ) 0 :: ringO rb c.seed lb N c.grace 0 :: (lb, row 127 ((List.replicate N (⟨0, 0⟩ : On)).flatMap On.cs)) :: (b1, .cells #[.int .i64 (c.n), .int .i64 (c.f), .int .i64 (c.m), .int .i64 (c.quorum), .int .i64 (c.fresh), .int .i64 (c.grace), .int .i64 (c.window), .int .i64 (c.t0), .int .i64 (c.t1), .int .i64 (c.t2), .int .i64 (c.t3), .int .i64 (c.tol), .int .i64 (c.min), .int .i64 (c.max), .int .i64 (c.calmup), .int .i64 (c.calmdown), .int .i64 (c.podsup), .int .i64 (c.pctup), .int .i64 (c.podsdown), .int .i64 (c.pctdown), .int .i64 (c.period), .int .i64 (c.far), .int .i64 (c.strikes), .int .i64 (c.probe), .int .i64 (c.sectors), .int .u64 (c.seed)] 26 (0, 0)) :: ((nws.map fun p => repO p c.window 0 0 0) ++ ((ols.map fun p => repO p c.window 0 0 0) ++ M))))) (fun w h => ro_mv2 w h.drop) rfl rfl sl83 sz62 by62 ze62 rfl hokt (.inl ⟨_, _, rfl, ⟨62, us83⟩, .some (Rd.get (i := 0) rfl rfl)⟩) rfl (one_ptr qb) (by omega) (by omega)) ?_
   rintro _ _ ⟨τ1, rfl, hokt1, rfl⟩
   refine ⟨(by repeat (first | exact Go.X.ro_pre4 | exact Go.X.ro_pre1 | refine Go.X.ro_tail ?_ | refine Go.X.ro_app ?_)), ?_⟩
   refine TG.heap (M' := gateO gb c rb (slA σ) k (slC σ) (slA τ) k (slC τ) 0 :: ringO rb c.seed lb N c.grace 0 :: (lb, row 127 ((List.replicate N (⟨0, 0⟩ : On)).flatMap On.cs)) :: (b1, .cells #[.int .i64 (c.n), .int .i64 (c.f), .int .i64 (c.m), .int .i64 (c.quorum), .int .i64 (c.fresh), .int .i64 (c.grace), .int .i64 (c.window), .int .i64 (c.t0), .int .i64 (c.t1), .int .i64 (c.t2), .int .i64 (c.t3), .int .i64 (c.tol), .int .i64 (c.min), .int .i64 (c.max), .int .i64 (c.calmup), .int .i64 (c.calmdown), .int .i64 (c.podsup), .int .i64 (c.pctup), .int .i64 (c.podsdown), .int .i64 (c.pctdown), .int .i64 (c.period), .int .i64 (c.far), .int .i64 (c.strikes), .int .i64 (c.probe), .int .i64 (c.sectors), .int .u64 (c.seed)] 26 (0, 0)) :: (slH σ1 62 (nws.map pp ++ [.pointer (some ⟨pb, 0, none⟩)]) ++ (slH τ1 62 (ols.map pp ++ [.pointer (some ⟨qb, 0, none⟩)]) ++ (repO pb c.window 0 0 0 :: repO qb c.window 0 0 0 :: ((nws.map fun p => repO p c.window 0 0 0) ++ ((ols.map fun p => repO p c.window 0 0 0) ++ M)))))) ro_gt ?_
   refine TG.tw false 20 2097151 rfl rfl rfl (Val.nilCheck rfl) ?_ (hro := (by repeat (first | exact Go.X.ro_pre4 | exact Go.X.ro_pre1 | refine Go.X.ro_tail ?_ | refine Go.X.ro_app ?_)))
   refine TG.tk false 21 4194303 rfl rfl rfl (Val.fieldAddr rfl fl90_2 sz83 rfl) ?_ (hro := (by repeat (first | exact Go.X.ro_pre4 | exact Go.X.ro_pre1 | refine Go.X.ro_tail ?_ | refine Go.X.ro_app ?_)))
   refine TG.one 22 (by kernel_rfl) ?_
   refine TP.dz true 8388607 none rfl rfl rfl rfl (Does.store (i := 0) rfl rfl rfl sz83 rfl rfl (by first | exact Nat.le_of_ble_eq_true rfl | decide | omega) rfl rfl) ?_
   rintro _ _ ⟨rfl, rfl⟩
   refine ⟨(by repeat (first | exact Go.X.ro_pre4 | exact Go.X.ro_pre1 | refine Go.X.ro_tail ?_ | refine Go.X.ro_app ?_)), ?_⟩
   refine TG.tk true 23 16777215 rfl rfl rfl (Val.nilCheck rfl) ?_ (hro := (by repeat (first | exact Go.X.ro_pre4 | exact Go.X.ro_pre1 | refine Go.X.ro_tail ?_ | refine Go.X.ro_app ?_)))
   refine TG.tk true 24 33554431 rfl rfl rfl (Val.fieldAddr rfl fl90_3 sz83 rfl) ?_ (hro := (by repeat (first | exact Go.X.ro_pre4 | exact Go.X.ro_pre1 | refine Go.X.ro_tail ?_ | refine Go.X.ro_app ?_)))
   refine TG.one 25 (by kernel_rfl) ?_
   refine TP.dz true 67108863 none rfl rfl rfl rfl (Does.store (i := 0) rfl rfl rfl sz83 rfl rfl (by first | exact Nat.le_of_ble_eq_true rfl | decide | omega) rfl rfl) ?_
   rintro _ _ ⟨rfl, rfl⟩
   refine ⟨(by repeat (first | exact Go.X.ro_pre4 | exact Go.X.ro_pre1 | refine Go.X.ro_tail ?_ | refine Go.X.ro_app ?_)), ?_⟩
   refine TG.done (by kernel_rfl) ?_ _
   refine AtX.blk ?_
   refine AtX.then ?_
   refine TC.region ?_
   refine TL.v (Val.add rfl rfl (w_i64 (by omega) (by omega))) ?_
   refine TL.v (Val.move rfl) ?_
   refine TL.nil ?_
   refine AtX.round (i := (k, σ, τ, nws, ols)) (k + 1, σ1, τ1, nws ++ [pb], ols ++ [qb]) ?_ ?_ (Sub.cons rfl (Sub.cons rfl (Sub.cons rfl (Sub.cons rfl (Sub.nil _))))) (fun w h => by dsimp only; rw [List.map_append, List.map_append, List.map_append, List.map_append]; exact ro_gi (A := [_, _, _, _]) w h)
   · exact ⟨by omega, by simp [hnl], by simp [hol], by dsimp only; rw [List.map_append]; exact hok1, by dsimp only; rw [List.map_append]; exact hokt1⟩
   · show N - (k + 1) < N - k; omega
  ·
   refine TC.exit ?_
   refine AtX.seqX ?_
   refine AtX.seqX ?_
   refine AtX.hit ?_
   refine AtX.then ?_
   refine TC.en (E' := [(3, _)]) ?_
   refine TC.seq ?_
   have hkN : k = N := by omega
   subst hkN
   obtain ⟨nb, cn, sn, rfl, hcn⟩ := hok.some (by omega)
   obtain ⟨ob, co, so, rfl, hco⟩ := hokt.some (by omega)
   refine TC.region ?_
   refine TL.v (Val.move rfl) ?_
   refine TL.v (Val.assign rfl) ?_
   refine TL.nt ?_
   refine TC.en (E' := [(2, _)]) ?_
   refine TC.ret1 (fn := Tryz.f6) (fun _ _ h => h) rfl (RV.tmp rfl) (M' := gateO gb c rb (some ⟨nb, 0, none⟩) k cn (some ⟨ob, 0, none⟩) k co 0 :: ringO rb c.seed lb k c.grace 0 :: (lb, row 127 ((List.replicate k (⟨0, 0⟩ : On)).flatMap On.cs)) :: (nb, row 62 (nws.map pp ++ sn)) :: (ob, row 62 (ols.map pp ++ so)) :: ((nws.map fun p => repO p c.window 0 0 0) ++ ((ols.map fun p => repO p c.window 0 0 0) ++ M))) (fun w h => ro_del 3 rfl w h) ?_
   exact ⟨gb, rb, lb, nb, cn, sn, ob, co, so, nws, ols, rfl, hnl, hol, rfl⟩

end Go.Proofs.YtphoapajlcaoeaaGreat
/- walks -/
set_option linter.unusedVariables false
set_option linter.unusedSimpArgs false
set_option maxRecDepth 100000
set_option maxHeartbeats 4000000
namespace Go.Proofs.YtphoapajlcaoeaaGreat
open Go Go.X
def sgen (kind gen : Int) : Int := if kind = 2 then gen - 1 else gen
theorem sealed_k (k : Nat) (kind gen sq ep va me : Int) (M : Hp) (hg : -1000000 ≤ gen ∧ gen ≤ 1000000) : FnC Tryz.prog 82 #[.agg #[.int .i64 kind, .int .i64 ((k : Nat) : Int), .int .i64 gen, .int .i64 sq, .int .i64 ep, .int .i64 va, .int .i64 me]] M (fun v M' => v = .int .i64 (sgen kind gen) ∧ M = M') := sealed_fn ⟨kind, (k : Nat), gen, sq, ep, va, me⟩ M hg
/-- (*quorumite/verify.Gate).key -/
theorem gKey_fn (gb rb lb nb cn ob co : Nat) (sn so : List Value) (c : Cf) (N : Nat) (asked ref : Int) (ones : List On) (nws ols : List Nat) (T : Hp) (hN : c.n = N) (h1 : ones.length = N) (h2 : nws.length = N) (h3 : ols.length = N) (hgr : 1 ≤ c.grace ∧ c.grace ≤ 100) (has : 0 ≤ asked ∧ asked ≤ 100000) (k : Nat) (x : On) (hx : ones[k]? = some x) (hxb : 0 ≤ x.gen ∧ x.gen ≤ 60000) (hxs : 0 ≤ x.since ∧ x.since ≤ 1099511627776) (kind gen sq ep va me : Int) (hgen : -1000000 ≤ gen ∧ gen ≤ 1000000) (hk2 : kind = 2 → gen - 1 = x.gen) (now : Int) : FnC Tryz.prog 53 #[.pointer (some ⟨gb, 0, none⟩), .agg #[.int .i64 kind, .int .i64 ((k : Nat) : Int), .int .i64 gen, .int .i64 sq, .int .i64 ep, .int .i64 va, .int .i64 me], .int .i64 now] (gateO gb c rb (some ⟨nb, 0, none⟩) N cn (some ⟨ob, 0, none⟩) N co ref :: ringO rb c.seed lb N c.grace asked :: (lb, row 127 (ones.flatMap On.cs)) :: (nb, row 62 (nws.map pp ++ sn)) :: (ob, row 62 (ols.map pp ++ so)) :: T) (fun v M' => v = .tuple #[.agg #[.int .u64 (if okK x (sgen kind gen) now c.grace = true then (macKey c.seed (k : Nat) (sgen kind gen)) else ⟨0, 0⟩).a, .int .u64 (if okK x (sgen kind gen) now c.grace = true then (macKey c.seed (k : Nat) (sgen kind gen)) else ⟨0, 0⟩).b], .int .i64 (if okK x (sgen kind gen) now c.grace = true then 0 else 4)] ∧ M' = (gateO gb c rb (some ⟨nb, 0, none⟩) N cn (some ⟨ob, 0, none⟩) N co ref :: ringO rb c.seed lb N c.grace (asked + 1) :: (lb, row 127 (ones.flatMap On.cs)) :: (nb, row 62 (nws.map pp ++ sn)) :: (ob, row 62 (ols.map pp ++ so)) :: T)) := by
 have hsg : -1000000 ≤ sgen kind gen ∧ sgen kind gen ≤ 1000000 := by unfold sgen; split <;> omega
 refine FnC.intro Tryz.func53 rfl 36 rfl (by simp) (fun z => ?_)
 refine TC.en (E' := [(0, _), (1, _), (2, _)]) ?_
 refine TC.sr ?_
 refine TL.d (Does.box rfl rfl) ?_
 rintro _ _ ⟨b1, rfl, rfl⟩
 refine TL.d (Does.alloc ze57 rfl) ?_
 rintro _ _ ⟨b2, rfl, rfl⟩
 refine TL.v (Val.assign rfl) ?_
 refine TL.nt ?_
 refine TC.en (E' := [(0, _), (2, _), (4, _), (6, _), (7, _)]) ?_
 refine TC.seq ?_
 refine TC.seq ?_
 refine TC.drawLM mixed 15 ?_
 refine TA.tk 0 1 rfl rfl rfl (Val.fieldAddr rfl fl39_0 sz3 rfl) ?_
 refine TA.tk 1 3 rfl rfl rfl (Val.load 1 rfl ag3 rfl rfl) ?_
 refine TA.tk 2 7 rfl rfl rfl (Val.eqlI rfl rfl) ?_
 refine TA.tk 3 15 rfl rfl rfl (Val.move rfl) ?_
 refine TA.gen (fun g3 hg3 => ?_)
 refine TA.gtk 4 31 rfl rfl rfl rfl rfl (fun hg => by subst hg; exact (Val.loadAgg 1 rfl ag39 sz39 rfl rfl rfl)) ?_
 refine TA.gtk 6 95 rfl rfl rfl rfl rfl (fun hg => by subst hg; exact (Val.move rfl)) ?_
 refine TA.gtk 7 223 rfl rfl rfl rfl rfl (fun hg => by subst hg; exact (Val.nilCheck rfl)) ?_
 refine TA.gtk 8 479 rfl rfl rfl rfl rfl (fun hg => by subst hg; exact (Val.fieldAddr rfl fl90_1 sz60 rfl)) ?_
 refine TA.gtk 9 991 rfl rfl rfl rfl rfl (fun hg => by subst hg; exact (Val.load 2 rfl ag60 rfl rfl)) ?_
 refine TA.gtk 10 2015 rfl rfl rfl rfl rfl (fun hg => by subst hg; exact (Val.fieldAddr rfl fl39_1 sz3 rfl)) ?_
 refine TA.gtk 11 4063 rfl rfl rfl rfl rfl (fun hg => by subst hg; exact (Val.load 1 rfl ag3 rfl rfl)) ?_
 cases g3 with
 | false =>
  refine TA.tkP 5 4095 rfl rfl rfl rfl rfl rfl ?_
  refine TA.tkP 12 8191 rfl rfl rfl rfl rfl rfl ?_
  refine TA.tkP 13 16383 rfl rfl rfl rfl rfl rfl ?_
  refine TA.tk 14 32767 rfl rfl rfl (Val.pick rfl rfl rfl) ?_
  refine TA.done (by kernel_rfl) ?_
  refine AtX.then ?_
  refine TC.en (E' := [(0, _), (2, _), (4, _), (6, _), (7, _), (22, _)]) ?_
  refine TC.cond rfl (fun c1 => ?_) (fun c1 => ?_)
  ·
   (exfalso; unfold sgen at *; grind)
  ·
   refine TC.en (E' := [(0, _), (2, _), (4, _), (6, _), (7, _)]) ?_
   refine TC.skip ?_
   refine AtX.then ?_
   refine TC.en (E' := [(0, _), (2, _), (4, _), (6, _), (7, _)]) ?_
   refine TC.seq ?_
   refine TC.drawL [(b1, .cells #[.int .i64 kind, .int .i64 ((k : Nat) : Int), .int .i64 gen, .int .i64 sq, .int .i64 ep, .int .i64 va, .int .i64 me] 39 (0, 0)), gateO gb c rb (some ⟨nb, 0, none⟩) N cn (some ⟨ob, 0, none⟩) N co ref] mixed 14 ?_
   refine TA.tk 0 1 rfl rfl rfl (Val.move rfl) ?_ (hro := (by repeat (first | exact Go.X.ro_pre2 | refine Go.X.ro_tail ?_ | refine Go.X.ro_app ?_)))
   refine TA.tk 1 3 rfl rfl rfl (Val.nilCheck rfl) ?_ (hro := (by repeat (first | exact Go.X.ro_pre2 | refine Go.X.ro_tail ?_ | refine Go.X.ro_app ?_)))
   refine TA.tk 2 7 rfl rfl rfl (Val.fieldAddr rfl fl90_1 sz60 rfl) ?_ (hro := (by repeat (first | exact Go.X.ro_pre2 | refine Go.X.ro_tail ?_ | refine Go.X.ro_app ?_)))
   refine TA.tk 3 15 rfl rfl rfl (Val.load 1 rfl ag60 rfl rfl) ?_ (hro := (by repeat (first | exact Go.X.ro_pre2 | refine Go.X.ro_tail ?_ | refine Go.X.ro_app ?_)))
   refine TA.tk 4 31 rfl rfl rfl (Val.fieldAddr rfl fl39_1 sz3 rfl) ?_ (hro := (by repeat (first | exact Go.X.ro_pre2 | refine Go.X.ro_tail ?_ | refine Go.X.ro_app ?_)))
   refine TA.tk 5 63 rfl rfl rfl (Val.load 0 rfl ag3 rfl rfl) ?_ (hro := (by repeat (first | exact Go.X.ro_pre2 | refine Go.X.ro_tail ?_ | refine Go.X.ro_app ?_)))
   refine TA.tk 6 127 rfl rfl rfl (Val.loadAgg 0 rfl ag39 sz39 rfl rfl rfl) ?_ (hro := (by repeat (first | exact Go.X.ro_pre2 | refine Go.X.ro_tail ?_ | refine Go.X.ro_app ?_)))
   refine TA.tk 8 383 rfl rfl rfl (Val.move rfl) ?_ (hro := (by repeat (first | exact Go.X.ro_pre2 | refine Go.X.ro_tail ?_ | refine Go.X.ro_app ?_)))
   refine TA.one 7 (by kernel_rfl) ?_
   refine TO.dz 511 (some 31) rfl rfl rfl rfl (Does.callF go82 rfl (sealed_k k kind gen sq ep va me _ hgen)) ?_
   rintro _ _ ⟨rfl, rfl⟩
   refine ⟨(by repeat (first | exact Go.X.ro_pre2 | refine Go.X.ro_tail ?_ | refine Go.X.ro_app ?_)), ?_⟩
   refine TA.one 9 (by kernel_rfl) ?_
   refine TO.dz 1023 (some 33) rfl rfl rfl rfl (Does.callF go83 rfl (Key_fn rb lb 3 c.seed N c.grace asked _ rfl ones (.some (rd_rowA (i := 4) rfl)) h1.symm k x hx (sgen kind gen) now ⟨by omega, by omega⟩ hxs ⟨by omega, by omega⟩ ⟨by omega, by omega⟩ ⟨4, by decide, rfl⟩)) ?_
   rintro _ _ ⟨rfl, rfl⟩
   refine ⟨(by repeat (first | exact Go.X.ro_pre2 | refine Go.X.ro_tail ?_ | refine Go.X.ro_app ?_)), ?_⟩
   refine TA.tk 10 2047 rfl rfl rfl (Val.extract rfl rfl) ?_ (hro := (by repeat (first | exact Go.X.ro_pre2 | refine Go.X.ro_tail ?_ | refine Go.X.ro_app ?_)))
   refine TA.tk 11 4095 rfl rfl rfl (Val.extract rfl rfl) ?_ (hro := (by repeat (first | exact Go.X.ro_pre2 | refine Go.X.ro_tail ?_ | refine Go.X.ro_app ?_)))
   refine TA.one 12 (by kernel_rfl) ?_
   refine TO.dz 8191 none rfl rfl rfl rfl (Does.store (i := 0) rfl rfl rfl sz57 rfl rfl (by first | exact Nat.le_of_ble_eq_true rfl | decide | omega) rfl rfl) ?_
   rintro _ _ ⟨rfl, rfl⟩
   refine ⟨(by repeat (first | exact Go.X.ro_pre2 | refine Go.X.ro_tail ?_ | refine Go.X.ro_app ?_)), ?_⟩
   refine TA.tk 13 16383 rfl rfl rfl (Val.assign rfl) ?_ (hro := (by repeat (first | exact Go.X.ro_pre2 | refine Go.X.ro_tail ?_ | refine Go.X.ro_app ?_)))
   refine TA.done (by kernel_rfl) ?_
   refine AtX.then ?_
   refine TC.en (E' := [(6, _), (7, _)]) ?_
   refine TC.ret2 (fn := Tryz.f53) (fun _ _ h => h) rfl (RV.agg (i := 0) rfl ag57 sz57 rfl rfl rfl) (RV.tmp rfl) (M' := (gateO gb c rb (some ⟨nb, 0, none⟩) N cn (some ⟨ob, 0, none⟩) N co ref :: ringO rb c.seed lb N c.grace (asked + 1) :: (lb, row 127 (ones.flatMap On.cs)) :: (nb, row 62 (nws.map pp ++ sn)) :: (ob, row 62 (ols.map pp ++ so)) :: T)) (fun w h => h.drop.drop) ?_
   exact ⟨rfl, rfl⟩
 | true =>
  refine TA.one 5 (by kernel_rfl) ?_
  refine TO.dzY 4095 (some 13) rfl rfl rfl rfl rfl rfl (Does.callF go82 rfl (sealed_k k kind gen sq ep va me _ hgen)) ?_
  rintro _ _ ⟨rfl, rfl⟩
  refine roK ?_
  refine TA.one 12 (by kernel_rfl) ?_
  refine TO.dzY 8191 (some 20) rfl rfl rfl rfl rfl rfl (Does.callF go23 rfl (rGen_fn rb lb 3 c.seed N c.grace asked _ rfl ones (.some (rd_rowA (i := 4) rfl)) h1.symm k x hx)) ?_
  rintro _ _ ⟨rfl, rfl⟩
  refine roK ?_
  refine TA.tkY 13 16383 rfl rfl rfl rfl rfl (Val.neqI rfl rfl) ?_
  refine TA.tk 14 32767 rfl rfl rfl (Val.pickAnd rfl rfl rfl) ?_
  refine TA.done (by kernel_rfl) ?_
  refine AtX.then ?_
  refine TC.en (E' := [(0, _), (2, _), (4, _), (6, _), (7, _), (22, _)]) ?_
  refine TC.condP rfl (fun c2 => ?_) (fun c2 => ?_)
  ·
   (exfalso; unfold sgen at *; grind)
  ·
   refine TC.en (E' := [(0, _), (2, _), (4, _), (6, _), (7, _)]) ?_
   refine TC.skip ?_
   refine AtX.then ?_
   refine TC.en (E' := [(0, _), (2, _), (4, _), (6, _), (7, _)]) ?_
   refine TC.seq ?_
   refine TC.drawL [(b1, .cells #[.int .i64 kind, .int .i64 ((k : Nat) : Int), .int .i64 gen, .int .i64 sq, .int .i64 ep, .int .i64 va, .int .i64 me] 39 (0, 0)), gateO gb c rb (some ⟨nb, 0, none⟩) N cn (some ⟨ob, 0, none⟩) N co ref] mixed 14 ?_
   refine TA.tk 0 1 rfl rfl rfl (Val.move rfl) ?_ (hro := (by repeat (first | exact Go.X.ro_pre2 | refine Go.X.ro_tail ?_ | refine Go.X.ro_app ?_)))
   refine TA.tk 1 3 rfl rfl rfl (Val.nilCheck rfl) ?_ (hro := (by repeat (first | exact Go.X.ro_pre2 | refine Go.X.ro_tail ?_ | refine Go.X.ro_app ?_)))
   refine TA.tk 2 7 rfl rfl rfl (Val.fieldAddr rfl fl90_1 sz60 rfl) ?_ (hro := (by repeat (first | exact Go.X.ro_pre2 | refine Go.X.ro_tail ?_ | refine Go.X.ro_app ?_)))
   refine TA.tk 3 15 rfl rfl rfl (Val.load 1 rfl ag60 rfl rfl) ?_ (hro := (by repeat (first | exact Go.X.ro_pre2 | refine Go.X.ro_tail ?_ | refine Go.X.ro_app ?_)))
   refine TA.tk 4 31 rfl rfl rfl (Val.fieldAddr rfl fl39_1 sz3 rfl) ?_ (hro := (by repeat (first | exact Go.X.ro_pre2 | refine Go.X.ro_tail ?_ | refine Go.X.ro_app ?_)))
   refine TA.tk 5 63 rfl rfl rfl (Val.load 0 rfl ag3 rfl rfl) ?_ (hro := (by repeat (first | exact Go.X.ro_pre2 | refine Go.X.ro_tail ?_ | refine Go.X.ro_app ?_)))
   refine TA.tk 6 127 rfl rfl rfl (Val.loadAgg 0 rfl ag39 sz39 rfl rfl rfl) ?_ (hro := (by repeat (first | exact Go.X.ro_pre2 | refine Go.X.ro_tail ?_ | refine Go.X.ro_app ?_)))
   refine TA.tk 8 383 rfl rfl rfl (Val.move rfl) ?_ (hro := (by repeat (first | exact Go.X.ro_pre2 | refine Go.X.ro_tail ?_ | refine Go.X.ro_app ?_)))
   refine TA.one 7 (by kernel_rfl) ?_
   refine TO.dz 511 (some 31) rfl rfl rfl rfl (Does.callF go82 rfl (sealed_k k kind gen sq ep va me _ hgen)) ?_
   rintro _ _ ⟨rfl, rfl⟩
   refine ⟨(by repeat (first | exact Go.X.ro_pre2 | refine Go.X.ro_tail ?_ | refine Go.X.ro_app ?_)), ?_⟩
   refine TA.one 9 (by kernel_rfl) ?_
   refine TO.dz 1023 (some 33) rfl rfl rfl rfl (Does.callF go83 rfl (Key_fn rb lb 3 c.seed N c.grace asked _ rfl ones (.some (rd_rowA (i := 4) rfl)) h1.symm k x hx (sgen kind gen) now ⟨by omega, by omega⟩ hxs ⟨by omega, by omega⟩ ⟨by omega, by omega⟩ ⟨4, by decide, rfl⟩)) ?_
   rintro _ _ ⟨rfl, rfl⟩
   refine ⟨(by repeat (first | exact Go.X.ro_pre2 | refine Go.X.ro_tail ?_ | refine Go.X.ro_app ?_)), ?_⟩
   refine TA.tk 10 2047 rfl rfl rfl (Val.extract rfl rfl) ?_ (hro := (by repeat (first | exact Go.X.ro_pre2 | refine Go.X.ro_tail ?_ | refine Go.X.ro_app ?_)))
   refine TA.tk 11 4095 rfl rfl rfl (Val.extract rfl rfl) ?_ (hro := (by repeat (first | exact Go.X.ro_pre2 | refine Go.X.ro_tail ?_ | refine Go.X.ro_app ?_)))
   refine TA.one 12 (by kernel_rfl) ?_
   refine TO.dz 8191 none rfl rfl rfl rfl (Does.store (i := 0) rfl rfl rfl sz57 rfl rfl (by first | exact Nat.le_of_ble_eq_true rfl | decide | omega) rfl rfl) ?_
   rintro _ _ ⟨rfl, rfl⟩
   refine ⟨(by repeat (first | exact Go.X.ro_pre2 | refine Go.X.ro_tail ?_ | refine Go.X.ro_app ?_)), ?_⟩
   refine TA.tk 13 16383 rfl rfl rfl (Val.assign rfl) ?_ (hro := (by repeat (first | exact Go.X.ro_pre2 | refine Go.X.ro_tail ?_ | refine Go.X.ro_app ?_)))
   refine TA.done (by kernel_rfl) ?_
   refine AtX.then ?_
   refine TC.en (E' := [(6, _), (7, _)]) ?_
   refine TC.ret2 (fn := Tryz.f53) (fun _ _ h => h) rfl (RV.agg (i := 0) rfl ag57 sz57 rfl rfl rfl) (RV.tmp rfl) (M' := (gateO gb c rb (some ⟨nb, 0, none⟩) N cn (some ⟨ob, 0, none⟩) N co ref :: ringO rb c.seed lb N c.grace (asked + 1) :: (lb, row 127 (ones.flatMap On.cs)) :: (nb, row 62 (nws.map pp ++ sn)) :: (ob, row 62 (ols.map pp ++ so)) :: T)) (fun w h => h.drop.drop) ?_
   exact ⟨rfl, rfl⟩

/-- (*quorumite/verify.Gate).replay -/
theorem gSel_fn (gb rb lb nb cn ob co : Nat) (sn so : List Value) (c : Cf) (N : Nat) (asked ref : Int) (ones : List On) (nws ols : List Nat) (T : Hp) (hN : c.n = N) (h1 : ones.length = N) (h2 : nws.length = N) (h3 : ols.length = N) (hgr : 1 ≤ c.grace ∧ c.grace ≤ 100) (has : 0 ≤ asked ∧ asked ≤ 100000) (k : Nat) (x : On) (hx : ones[k]? = some x) (hxb : 0 ≤ x.gen ∧ x.gen ≤ 60000) (hxs : 0 ≤ x.since ∧ x.since ≤ 1099511627776) (kind gen sq ep va me : Int) (hgen : -1000000 ≤ gen ∧ gen ≤ 1000000) (hk2 : kind = 2 → gen - 1 = x.gen) (p p2 : Nat) (hp : nws[k]? = some p) (hp2 : ols[k]? = some p2) : FnC Tryz.prog 54 #[.pointer (some ⟨gb, 0, none⟩), .agg #[.int .i64 kind, .int .i64 ((k : Nat) : Int), .int .i64 gen, .int .i64 sq, .int .i64 ep, .int .i64 va, .int .i64 me]] (gateO gb c rb (some ⟨nb, 0, none⟩) N cn (some ⟨ob, 0, none⟩) N co ref :: ringO rb c.seed lb N c.grace asked :: (lb, row 127 (ones.flatMap On.cs)) :: (nb, row 62 (nws.map pp ++ sn)) :: (ob, row 62 (ols.map pp ++ so)) :: T) (fun v M' => v = .pointer (some ⟨if sgen kind gen = x.gen then p else p2, 0, none⟩) ∧ (gateO gb c rb (some ⟨nb, 0, none⟩) N cn (some ⟨ob, 0, none⟩) N co ref :: ringO rb c.seed lb N c.grace asked :: (lb, row 127 (ones.flatMap On.cs)) :: (nb, row 62 (nws.map pp ++ sn)) :: (ob, row 62 (ols.map pp ++ so)) :: T) = M') := by
 have hkN : k < N := by rw [← h1]; exact (List.getElem?_eq_some_iff.1 hx).1
 refine FnC.intro Tryz.func54 rfl 31 rfl (by simp) (fun z => ?_)
 refine TC.en (E' := [(0, _), (1, _)]) ?_
 refine TC.sr ?_
 refine TL.d (Does.box rfl rfl) ?_
 rintro _ _ ⟨b1, rfl, rfl⟩
 refine TL.v (Val.assign rfl) ?_
 refine TL.nt ?_
 refine TC.en (E' := [(0, _), (3, _), (4, _)]) ?_
 refine TC.seq ?_
 refine TC.seq ?_
 refine TC.drawLM mixed 10 ?_
 refine TA.tk 0 1 rfl rfl rfl (Val.loadAgg 0 rfl ag39 sz39 rfl rfl rfl) ?_
 refine TA.tk 2 5 rfl rfl rfl (Val.move rfl) ?_
 refine TA.tk 3 13 rfl rfl rfl (Val.nilCheck rfl) ?_
 refine TA.tk 4 29 rfl rfl rfl (Val.fieldAddr rfl fl90_1 sz60 rfl) ?_
 refine TA.tk 5 61 rfl rfl rfl (Val.load 1 rfl ag60 rfl rfl) ?_
 refine TA.tk 6 125 rfl rfl rfl (Val.fieldAddr rfl fl39_1 sz3 rfl) ?_
 refine TA.tk 7 253 rfl rfl rfl (Val.load 0 rfl ag3 rfl rfl) ?_
 refine TA.one 1 (by kernel_rfl) ?_
 refine TO.dz 255 (some 6) rfl rfl rfl rfl (Does.callF go82 rfl (sealed_k k kind gen sq ep va me _ hgen)) ?_
 rintro _ _ ⟨rfl, rfl⟩
 refine roK ?_
 refine TA.one 8 (by kernel_rfl) ?_
 refine TO.dz 511 (some 13) rfl rfl rfl rfl (Does.callF go23 rfl (rGen_fn rb lb 2 c.seed N c.grace asked _ rfl ones (.some (rd_rowA (i := 3) rfl)) h1.symm k x hx)) ?_
 rintro _ _ ⟨rfl, rfl⟩
 refine roK ?_
 refine TA.tk 9 1023 rfl rfl rfl (Val.eqlI rfl rfl) ?_
 refine TA.done (by kernel_rfl) ?_
 refine AtX.then ?_
 refine TC.en (E' := [(0, _), (3, _), (4, _), (14, _)]) ?_
 refine TC.condP rfl (fun c1 => ?_) (fun c1 => ?_)
 ·
  refine TC.en (E' := [(0, _), (3, _), (4, _)]) ?_
  refine TC.seq ?_
  refine TC.drawLM mixed 9 ?_
  refine TA.tk 0 1 rfl rfl rfl (Val.move rfl) ?_
  refine TA.tk 1 3 rfl rfl rfl (Val.nilCheck rfl) ?_
  refine TA.tk 2 7 rfl rfl rfl (Val.fieldAddr rfl fl90_2 sz83 rfl) ?_
  refine TA.tk 3 15 rfl rfl rfl (Val.load 1 rfl ag83 rfl rfl) ?_
  refine TA.tk 4 31 rfl rfl rfl (Val.fieldAddr rfl fl39_1 sz3 rfl) ?_
  refine TA.tk 5 63 rfl rfl rfl (Val.load 0 rfl ag3 rfl rfl) ?_
  refine TA.tk 6 127 rfl rfl rfl (Val.indexAddr (i := k) (r := k) rfl rfl sl83 sz62 rfl hkN (by omega)) ?_
  refine TA.tk 7 255 rfl rfl rfl (Val.loadRd (o := 0) (j := k) rfl ag62 (rd_row0 (i := 4) (l := nws.map pp) rfl) (by omega) (map_get hp)) ?_
  refine TA.tk 8 511 rfl rfl rfl (Val.assign rfl) ?_
  refine TA.done (by kernel_rfl) ?_
  refine AtX.then ?_
  refine TC.en (E' := [(0, _), (3, _), (4, _)]) ?_
  refine TC.ret1 (fn := Tryz.f54) (fun _ _ h => h) rfl (RV.tmp rfl) (M' := (gateO gb c rb (some ⟨nb, 0, none⟩) N cn (some ⟨ob, 0, none⟩) N co ref :: ringO rb c.seed lb N c.grace asked :: (lb, row 127 (ones.flatMap On.cs)) :: (nb, row 62 (nws.map pp ++ sn)) :: (ob, row 62 (ols.map pp ++ so)) :: T)) (fun w h => h.drop) ?_
  refine ⟨?_, rfl⟩
  first | rw [if_pos (by assumption)] | rw [if_neg (by assumption)]
 ·
  refine TC.en (E' := [(0, _), (3, _), (4, _)]) ?_
  refine TC.skip ?_
  refine AtX.then ?_
  refine TC.en (E' := [(0, _), (3, _), (4, _)]) ?_
  refine TC.seq ?_
  refine TC.drawLM mixed 9 ?_
  refine TA.tk 0 1 rfl rfl rfl (Val.move rfl) ?_
  refine TA.tk 1 3 rfl rfl rfl (Val.nilCheck rfl) ?_
  refine TA.tk 2 7 rfl rfl rfl (Val.fieldAddr rfl fl90_3 sz83 rfl) ?_
  refine TA.tk 3 15 rfl rfl rfl (Val.load 1 rfl ag83 rfl rfl) ?_
  refine TA.tk 4 31 rfl rfl rfl (Val.fieldAddr rfl fl39_1 sz3 rfl) ?_
  refine TA.tk 5 63 rfl rfl rfl (Val.load 0 rfl ag3 rfl rfl) ?_
  refine TA.tk 6 127 rfl rfl rfl (Val.indexAddr (i := k) (r := k) rfl rfl sl83 sz62 rfl hkN (by omega)) ?_
  refine TA.tk 7 255 rfl rfl rfl (Val.loadRd (o := 0) (j := k) rfl ag62 (rd_row0 (i := 5) (l := ols.map pp) rfl) (by omega) (map_get hp2)) ?_
  refine TA.tk 8 511 rfl rfl rfl (Val.assign rfl) ?_
  refine TA.done (by kernel_rfl) ?_
  refine AtX.then ?_
  refine TC.en (E' := [(4, _)]) ?_
  refine TC.ret1 (fn := Tryz.f54) (fun _ _ h => h) rfl (RV.tmp rfl) (M' := (gateO gb c rb (some ⟨nb, 0, none⟩) N cn (some ⟨ob, 0, none⟩) N co ref :: ringO rb c.seed lb N c.grace asked :: (lb, row 127 (ones.flatMap On.cs)) :: (nb, row 62 (nws.map pp ++ sn)) :: (ob, row 62 (ols.map pp ++ so)) :: T)) (fun w h => h.drop) ?_
  refine ⟨?_, rfl⟩
  first | rw [if_pos (by assumption)] | rw [if_neg (by assumption)]

end Go.Proofs.YtphoapajlcaoeaaGreat
/- walks -/
set_option linter.unusedVariables false
set_option linter.unusedSimpArgs false
set_option maxRecDepth 100000
set_option maxHeartbeats 4000000
namespace Go.Proofs.YtphoapajlcaoeaaGreat
open Go Go.X
def chkC (ok same may stale mok : Bool) : Int := if ok = false then 4 else if same = false then 5 else if may = false then 6 else if stale = true then 7 else if mok = true then 0 else 1
/-- (*quorumite/verify.Gate).check -/
theorem check_nil (gb rb lb nb cn ob co : Nat) (sn so : List Value) (c : Cf) (N : Nat) (asked ref : Int) (ones : List On) (nws ols : List Nat) (T : Hp) (hN : c.n = N) (h1 : ones.length = N) (h2 : nws.length = N) (h3 : ols.length = N) (hgr : 1 ≤ c.grace ∧ c.grace ≤ 100) (has : 0 ≤ asked ∧ asked ≤ 90000) (k : Nat) (x : On) (hx : ones[k]? = some x) (hxb : 0 ≤ x.gen ∧ x.gen ≤ 60000) (hxs : 0 ≤ x.since ∧ x.since ≤ 1099511627776) (kind gen sq ep va me : Int) (hgen : -1000000 ≤ gen ∧ gen ≤ 1000000) (hk2 : kind = 2 → gen - 1 = x.gen) (now : Int) (hc : OkC c) (p p2 : Nat) (hp : nws[k]? = some p) (hp2 : ols[k]? = some p2) (ip : Nat) (top bits rr : Int) (htop : 0 ≤ top ∧ top ≤ 1000000) (hrep : T[ip]? = some (repO (if sgen kind gen = x.gen then p else p2) c.window top bits rr)) (hsq : 1 ≤ sq ∧ sq ≤ 1099511627776) (hep : 0 ≤ ep ∧ ep ≤ 1099511627776) (hnow : 0 ≤ now ∧ now ≤ 1099511627776) (tx : List UInt8) (A : Option Addr) (nn cc : Nat) (hA : RdS T A (bv tx)) (hnn : nn = tx.length) (htx : tx.length ≤ 1000) (tg : K2)  : FnC Tryz.prog 38 #[.pointer (some ⟨gb, 0, none⟩), .agg #[.int .i64 kind, .int .i64 ((k : Nat) : Int), .int .i64 gen, .int .i64 sq, .int .i64 ep, .int .i64 va, .int .i64 me], .slice A nn cc, .agg #[.int .u64 tg.a, .int .u64 tg.b], .int .i64 now, .nilFunc] (gateO gb c rb (some ⟨nb, 0, none⟩) N cn (some ⟨ob, 0, none⟩) N co ref :: ringO rb c.seed lb N c.grace asked :: (lb, row 127 (ones.flatMap On.cs)) :: (nb, row 62 (nws.map pp ++ sn)) :: (ob, row 62 (ols.map pp ++ so)) :: T) (fun v M' => v = .int .i64 (chkC (okK x (sgen kind gen) now c.grace) (decide (bitsOf .or .u64 (xor64 (tagOf (if okK x (sgen kind gen) now c.grace = true then (macKey c.seed (k : Nat) (sgen kind gen)) else ⟨0, 0⟩) tx).a tg.a) (xor64 (tagOf (if okK x (sgen kind gen) now c.grace = true then (macKey c.seed (k : Nat) (sgen kind gen)) else ⟨0, 0⟩) tx).b tg.b) = 0)) (mayP c.window top bits sq) (decide (ep < now) || decide (c.fresh ≤ IntKind.u64.wrap (ep - now))) (decide (me < c.m))) ∧ M' = (gateO gb c rb (some ⟨nb, 0, none⟩) N cn (some ⟨ob, 0, none⟩) N co ref :: ringO rb c.seed lb N c.grace (asked + 1) :: (lb, row 127 (ones.flatMap On.cs)) :: (nb, row 62 (nws.map pp ++ sn)) :: (ob, row 62 (ols.map pp ++ so)) :: T)) := by
 have hkN : k < N := by rw [← h1]; exact (List.getElem?_eq_some_iff.1 hx).1
 have hfr := hc.fresh
 have hwin := hc.window
 refine FnC.intro Tryz.func38 rfl 88 rfl (by simp) (fun z => ?_)
 refine TC.en (E' := [(0, _), (1, _), (2, _), (3, _), (4, _), (5, _)]) ?_
 refine TC.sr ?_
 refine TL.d (Does.box rfl rfl) ?_
 rintro _ _ ⟨b1, rfl, rfl⟩
 refine TL.d (Does.box rfl rfl) ?_
 rintro _ _ ⟨b2, rfl, rfl⟩
 refine TL.v (Val.assign rfl) ?_
 refine TL.nt ?_
 refine TC.en (E' := [(0, _), (2, _), (4, _), (5, _), (7, _), (9, _), (12, _)]) ?_
 refine TC.seq ?_
 refine TC.seq ?_
 refine TC.heap (M' := (gateO gb c rb (some ⟨nb, 0, none⟩) N cn (some ⟨ob, 0, none⟩) N co ref :: ringO rb c.seed lb N c.grace asked :: (lb, row 127 (ones.flatMap On.cs)) :: (nb, row 62 (nws.map pp ++ sn)) :: (ob, row 62 (ols.map pp ++ so)) :: ((b2, .cells #[.int .u64 tg.a, .int .u64 tg.b] 98 (0, 0)) :: (b1, .cells #[.int .i64 kind, .int .i64 ((k : Nat) : Int), .int .i64 gen, .int .i64 sq, .int .i64 ep, .int .i64 va, .int .i64 me] 39 (0, 0)) :: T))) (fun w h => ro_mv (A := [_, _]) (L := [_, _, _, _, _]) w h) ?_
 refine TC.drawLM mixed 18 ?_
 refine TA.tk 0 1 rfl rfl rfl (Val.fieldAddr rfl fl39_1 sz3 rfl) ?_
 refine TA.tk 1 3 rfl rfl rfl (Val.load 6 rfl ag3 rfl rfl) ?_
 refine TA.tk 2 7 rfl rfl rfl (Val.move rfl) ?_
 refine TA.tk 3 15 rfl rfl rfl (Val.nilCheck rfl) ?_
 refine TA.tk 4 31 rfl rfl rfl (Val.fieldAddr rfl fl90_0 sz26 rfl) ?_
 refine TA.tk 5 63 rfl rfl rfl (Val.fieldAddr rfl fl26_0 sz3 rfl) ?_
 refine TA.tk 6 127 rfl rfl rfl (Val.load 0 rfl ag3 rfl rfl) ?_
 refine TA.tk 7 255 rfl rfl rfl (Val.geq rfl rfl) ?_
 refine TA.tk 8 511 rfl rfl rfl (Val.move rfl) ?_
 refine TA.gen (fun g3 hg3 => ?_)
 cases g3 with
 | false =>
  refine TA.tkY 9 1023 rfl rfl rfl rfl rfl (Val.move rfl) ?_
  refine TA.tkY 10 2047 rfl rfl rfl rfl rfl (Val.neqNilF rfl rfl (by kernel_rfl)) ?_
  refine TA.tkY 11 4095 rfl rfl rfl rfl rfl (Val.move rfl) ?_
  refine TA.gen (fun g4 hg4 => ?_)
  refine TA.gtk 12 8191 rfl rfl rfl rfl rfl (fun hg => by subst hg; exact (Val.move rfl)) ?_
  refine TA.gtk 13 16383 rfl rfl rfl rfl rfl (fun hg => by subst hg; exact (Val.fieldAddr rfl fl39_1 sz3 rfl)) ?_
  refine TA.gtk 14 32767 rfl rfl rfl rfl rfl (fun hg => by subst hg; exact (Val.load 6 rfl ag3 rfl rfl)) ?_
  cases g4 with
  | false =>
   refine TA.tkP 15 65535 rfl rfl rfl rfl rfl rfl ?_
   refine TA.tkY 16 131071 rfl rfl rfl rfl rfl (Val.pick rfl rfl rfl) ?_
   refine TA.tk 17 262143 rfl rfl rfl (Val.pickOr rfl rfl rfl) ?_
   refine TA.done (by kernel_rfl) ?_
   refine AtX.then ?_
   refine TC.en (E' := [(0, _), (2, _), (4, _), (7, _), (9, _), (12, _), (32, _)]) ?_
   refine TC.cond rfl (fun c1 => ?_) (fun c1 => ?_)
   ·
    (exfalso; grind)
   ·
    refine TC.en (E' := [(0, _), (2, _), (4, _), (7, _), (9, _), (12, _)]) ?_
    refine TC.skip ?_
    refine AtX.then ?_
    refine TC.en (E' := [(0, _), (2, _), (4, _), (7, _), (9, _), (12, _)]) ?_
    refine TC.sr ?_
    refine TL.v (Val.move rfl) ?_
    refine TL.v (Val.loadAgg 6 rfl ag39 sz39 rfl rfl rfl) ?_
    refine TL.v (Val.move rfl) ?_
    refine TL.d (Does.callF go53 rfl (gKey_fn gb rb lb nb cn ob co sn so c N asked ref ones nws ols _ hN h1 h2 h3 hgr ⟨has.1, by omega⟩ k x hx hxb hxs kind gen sq ep va me hgen hk2 now)) ?_
    rintro _ _ ⟨rfl, rfl⟩
    refine TL.v (Val.move rfl) ?_
    refine TL.v (Val.extract rfl rfl) ?_
    refine TL.v (Val.extract rfl rfl) ?_
    refine TL.d (Does.alloc ze57 rfl) ?_
    rintro _ _ ⟨b3_, rfl, rfl⟩
    refine TL.heap (M' := (gateO gb c rb (some ⟨nb, 0, none⟩) N cn (some ⟨ob, 0, none⟩) N co ref :: ringO rb c.seed lb N c.grace (asked + 1) :: (lb, row 127 (ones.flatMap On.cs)) :: (nb, row 62 (nws.map pp ++ sn)) :: (ob, row 62 (ols.map pp ++ so)) :: ((b3_, .cells #[.int .u64 0, .int .u64 0] 57 (0, 0)) :: ((b2, .cells #[.int .u64 tg.a, .int .u64 tg.b] 98 (0, 0)) :: (b1, .cells #[.int .i64 kind, .int .i64 ((k : Nat) : Int), .int .i64 gen, .int .i64 sq, .int .i64 ep, .int .i64 va, .int .i64 me] 39 (0, 0)) :: T)))) (fun w h => ro_mv (A := [_]) (L := [_, _, _, _, _]) w h) ?_
    refine TL.d (Does.store (i := 5) rfl rfl rfl sz57 rfl rfl (by first | exact Nat.le_of_ble_eq_true rfl | decide | omega) rfl rfl) ?_
    rintro _ _ ⟨rfl, rfl⟩
    refine TL.v (Val.assign rfl) ?_
    refine TL.nt ?_
    refine TC.en (E' := [(0, _), (2, _), (4, _), (7, _), (9, _), (12, _), (13, _), (14, _)]) ?_
    refine TC.seq ?_
    refine TC.block ?_
    refine TC.sr ?_
    refine TL.v (Val.move rfl) ?_
    refine TL.v (Val.neqI rfl rfl) ?_
    refine TL.v (Val.assign rfl) ?_
    refine TL.nt ?_
    refine TC.en (E' := [(0, _), (2, _), (4, _), (7, _), (9, _), (12, _), (13, _), (14, _), (40, _)]) ?_
    refine TC.condP rfl (fun c2 => ?_) (fun c2 => ?_)
    ·
     refine TC.en (E' := [(12, _), (14, _)]) ?_
     refine TC.sr ?_
     refine TL.v (Val.move rfl) ?_
     refine TL.v (Val.assign rfl) ?_
     refine TL.nt ?_
     refine TC.en (E' := [(12, _)]) ?_
     refine TC.ret1 (fn := Tryz.f38) (fun _ _ h => h) rfl (RV.tmp rfl) (M' := (gateO gb c rb (some ⟨nb, 0, none⟩) N cn (some ⟨ob, 0, none⟩) N co ref :: ringO rb c.seed lb N c.grace (asked + 1) :: (lb, row 127 (ones.flatMap On.cs)) :: (nb, row 62 (nws.map pp ++ sn)) :: (ob, row 62 (ols.map pp ++ so)) :: T)) (fun w h => (ro_mv (A := [_, _, _, _, _]) (L := [_, _, _]) w h).drop.drop.drop) ?_
     refine ⟨?_, rfl⟩
     refine congrArg (Value.int .i64) ?_
     unfold chkC
     clear hN h1 h2 h3 hgr has hx hxb hxs hgen hk2 hp hp2 htop hrep hsq hep hnow hA hnn htx hkN hfr hwin hc
     generalize bitsOf .or .u64 (xor64 (tagOf (if okK x (sgen kind gen) now c.grace = true then (macKey c.seed (k : Nat) (sgen kind gen)) else ⟨0, 0⟩) tx).a tg.a) (xor64 (tagOf (if okK x (sgen kind gen) now c.grace = true then (macKey c.seed (k : Nat) (sgen kind gen)) else ⟨0, 0⟩) tx).b tg.b) = o2 at *
     generalize okK x (sgen kind gen) now c.grace = o1 at *
     generalize mayP c.window top bits sq = o3 at *
     generalize IntKind.u64.wrap (ep - now) = o4 at *
     try clear hg3 hg4 c1
     cases o1 <;> cases o3 <;> grind
    ·
     refine TC.en (E' := [(0, _), (2, _), (4, _), (7, _), (9, _), (12, _), (13, _)]) ?_
     refine TC.seq ?_
     refine TC.drawLM mixed 7 ?_
     refine TA.tk 0 1 rfl rfl rfl (Val.loadAgg 5 rfl ag57 sz57 rfl rfl rfl) ?_
     refine TA.tk 1 3 rfl rfl rfl (Val.move rfl) ?_
     refine TA.tk 3 11 rfl rfl rfl (Val.loadAgg 6 rfl ag98 sz98 rfl rfl rfl) ?_
     refine TA.one 2 (by kernel_rfl) ?_
     refine TO.dz 15 (some 47) rfl rfl rfl rfl (Does.callF go72 rfl (Tag_fn (if okK x (sgen kind gen) now c.grace = true then (macKey c.seed (k : Nat) (sgen kind gen)) else ⟨0, 0⟩) tx _ _ _ _ (by repeat (first | exact hA | apply RdS.cons)) hnn htx)) ?_
     rintro _ _ ⟨rfl, rfl⟩
     refine roK ?_
     refine TA.one 4 (by kernel_rfl) ?_
     refine TO.dz 31 (some 49) rfl rfl rfl rfl (Does.callF go71 rfl (Same_fn (tagOf (if okK x (sgen kind gen) now c.grace = true then (macKey c.seed (k : Nat) (sgen kind gen)) else ⟨0, 0⟩) tx) tg _)) ?_
     rintro _ _ ⟨rfl, rfl⟩
     refine roK ?_
     refine TA.tk 5 63 rfl rfl rfl (Val.not rfl) ?_
     refine TA.tk 6 127 rfl rfl rfl (Val.assign rfl) ?_
     refine TA.done (by kernel_rfl) ?_
     refine AtX.then ?_
     refine TC.en (E' := [(0, _), (4, _), (7, _), (12, _), (44, _)]) ?_
     refine TC.condN rfl (fun c3 => ?_) (fun c3 => ?_)
     ·
      refine TC.en (E' := [(12, _)]) ?_
      refine TC.sr ?_
      refine TL.v (Val.assign rfl) ?_
      refine TL.nt ?_
      refine TC.en (E' := [(12, _)]) ?_
      refine TC.ret1 (fn := Tryz.f38) (fun _ _ h => h) rfl (RV.tmp rfl) (M' := (gateO gb c rb (some ⟨nb, 0, none⟩) N cn (some ⟨ob, 0, none⟩) N co ref :: ringO rb c.seed lb N c.grace (asked + 1) :: (lb, row 127 (ones.flatMap On.cs)) :: (nb, row 62 (nws.map pp ++ sn)) :: (ob, row 62 (ols.map pp ++ so)) :: T)) (fun w h => (ro_mv (A := [_, _, _, _, _]) (L := [_, _, _]) w h).drop.drop.drop) ?_
      refine ⟨?_, rfl⟩
      refine congrArg (Value.int .i64) ?_
      unfold chkC
      clear hN h1 h2 h3 hgr has hx hxb hxs hgen hk2 hp hp2 htop hrep hsq hep hnow hA hnn htx hkN hfr hwin hc
      generalize bitsOf .or .u64 (xor64 (tagOf (if okK x (sgen kind gen) now c.grace = true then (macKey c.seed (k : Nat) (sgen kind gen)) else ⟨0, 0⟩) tx).a tg.a) (xor64 (tagOf (if okK x (sgen kind gen) now c.grace = true then (macKey c.seed (k : Nat) (sgen kind gen)) else ⟨0, 0⟩) tx).b tg.b) = o2 at *
      generalize okK x (sgen kind gen) now c.grace = o1 at *
      generalize mayP c.window top bits sq = o3 at *
      generalize IntKind.u64.wrap (ep - now) = o4 at *
      try clear hg3 hg4 c1
      cases o1 <;> cases o3 <;> grind
     ·
      refine TC.en (E' := [(0, _), (4, _), (7, _), (12, _)]) ?_
      refine TC.seq ?_
      refine TC.drawLM mixed 8 ?_
      refine TA.tk 0 1 rfl rfl rfl (Val.move rfl) ?_
      refine TA.tk 1 3 rfl rfl rfl (Val.loadAgg 7 rfl ag39 sz39 rfl rfl rfl) ?_
      refine TA.tk 3 11 rfl rfl rfl (Val.fieldAddr rfl fl39_3 sz2 rfl) ?_
      refine TA.tk 4 27 rfl rfl rfl (Val.load 7 rfl ag2 rfl rfl) ?_
      refine TA.one 2 (by kernel_rfl) ?_
      refine TO.dz 31 (some 54) rfl rfl rfl rfl (Does.callF go54 rfl (gSel_fn gb rb lb nb cn ob co sn so c N (asked + 1) ref ones nws ols _ hN h1 h2 h3 hgr ⟨by omega, by omega⟩ k x hx hxb hxs kind gen sq ep va me hgen hk2 p p2 hp hp2)) ?_
      rintro _ _ ⟨rfl, rfl⟩
      refine roK ?_
      refine TA.one 5 (by kernel_rfl) ?_
      refine TO.dz 63 (some 57) rfl rfl rfl rfl (Does.callF go55 rfl (pMay_fn (if sgen kind gen = x.gen then p else p2) (ip + 8) c.window top bits rr _ hrep hwin ⟨by omega, by omega⟩ sq hsq)) ?_
      rintro _ _ ⟨rfl, rfl⟩
      refine roK ?_
      refine TA.tk 6 127 rfl rfl rfl (Val.not rfl) ?_
      refine TA.tk 7 255 rfl rfl rfl (Val.assign rfl) ?_
      refine TA.done (by kernel_rfl) ?_
      refine AtX.then ?_
      refine TC.en (E' := [(0, _), (4, _), (7, _), (12, _), (51, _)]) ?_
      refine TC.condB rfl (fun c4 => ?_) (fun c4 => ?_)
      ·
       refine TC.en (E' := [(12, _)]) ?_
       refine TC.sr ?_
       refine TL.v (Val.assign rfl) ?_
       refine TL.nt ?_
       refine TC.en (E' := [(12, _)]) ?_
       refine TC.ret1 (fn := Tryz.f38) (fun _ _ h => h) rfl (RV.tmp rfl) (M' := (gateO gb c rb (some ⟨nb, 0, none⟩) N cn (some ⟨ob, 0, none⟩) N co ref :: ringO rb c.seed lb N c.grace (asked + 1) :: (lb, row 127 (ones.flatMap On.cs)) :: (nb, row 62 (nws.map pp ++ sn)) :: (ob, row 62 (ols.map pp ++ so)) :: T)) (fun w h => (ro_mv (A := [_, _, _, _, _]) (L := [_, _, _]) w h).drop.drop.drop) ?_
       refine ⟨?_, rfl⟩
       refine congrArg (Value.int .i64) ?_
       unfold chkC
       clear hN h1 h2 h3 hgr has hx hxb hxs hgen hk2 hp hp2 htop hrep hsq hep hnow hA hnn htx hkN hfr hwin hc
       generalize bitsOf .or .u64 (xor64 (tagOf (if okK x (sgen kind gen) now c.grace = true then (macKey c.seed (k : Nat) (sgen kind gen)) else ⟨0, 0⟩) tx).a tg.a) (xor64 (tagOf (if okK x (sgen kind gen) now c.grace = true then (macKey c.seed (k : Nat) (sgen kind gen)) else ⟨0, 0⟩) tx).b tg.b) = o2 at *
       generalize okK x (sgen kind gen) now c.grace = o1 at *
       generalize mayP c.window top bits sq = o3 at *
       generalize IntKind.u64.wrap (ep - now) = o4 at *
       try clear hg3 hg4 c1
       cases o1 <;> cases o3 <;> grind
      ·
       refine TC.en (E' := [(0, _), (4, _), (7, _), (12, _)]) ?_
       refine TC.seq ?_
       refine TC.drawLM mixed 20 ?_
       refine TA.tk 0 1 rfl rfl rfl (Val.fieldAddr rfl fl39_4 sz2 rfl) ?_
       refine TA.tk 1 3 rfl rfl rfl (Val.load 7 rfl ag2 rfl rfl) ?_
       refine TA.tk 2 7 rfl rfl rfl (Val.move rfl) ?_
       refine TA.tk 3 15 rfl rfl rfl (Val.lss rfl rfl) ?_
       refine TA.tk 4 31 rfl rfl rfl (Val.move rfl) ?_
       refine TA.gen (fun g10 hg10 => ?_)
       refine TA.gtk 5 63 rfl rfl rfl rfl rfl (fun hg => by subst hg; exact (Val.fieldAddr rfl fl39_4 sz2 rfl)) ?_
       refine TA.gtk 6 127 rfl rfl rfl rfl rfl (fun hg => by subst hg; exact (Val.load 7 rfl ag2 rfl rfl)) ?_
       refine TA.gtk 7 255 rfl rfl rfl rfl rfl (fun hg => by subst hg; exact (Val.convI rfl iu2 in24 (r := ep) (w_u64 (by omega) (by omega)))) ?_
       refine TA.gtk 8 511 rfl rfl rfl rfl rfl (fun hg => by subst hg; exact (Val.move rfl)) ?_
       refine TA.gtk 9 1023 rfl rfl rfl rfl rfl (fun hg => by subst hg; exact (Val.convI rfl iu2 in24 (r := now) (w_u64 (by omega) (by omega)))) ?_
       refine TA.gtk 10 2047 rfl rfl rfl rfl rfl (fun hg => by subst hg; exact (Val.sub rfl rfl (r := IntKind.u64.wrap (ep - now)) rfl)) ?_
       refine TA.gtk 11 4095 rfl rfl rfl rfl rfl (fun hg => by subst hg; exact (Val.move rfl)) ?_
       refine TA.gtk 12 8191 rfl rfl rfl rfl rfl (fun hg => by subst hg; exact (Val.nilCheck rfl)) ?_
       refine TA.gtk 13 16383 rfl rfl rfl rfl rfl (fun hg => by subst hg; exact (Val.fieldAddr rfl fl90_0 sz26 rfl)) ?_
       refine TA.gtk 14 32767 rfl rfl rfl rfl rfl (fun hg => by subst hg; exact (Val.fieldAddr rfl fl26_4 sz3 rfl)) ?_
       refine TA.gtk 15 65535 rfl rfl rfl rfl rfl (fun hg => by subst hg; exact (Val.load 0 rfl ag3 rfl rfl)) ?_
       refine TA.gtk 16 131071 rfl rfl rfl rfl rfl (fun hg => by subst hg; exact (Val.convI rfl iu3 in24 (r := c.fresh) (w_u64 (by omega) (by omega)))) ?_
       refine TA.gtk 17 262143 rfl rfl rfl rfl rfl (fun hg => by subst hg; exact (Val.geq rfl rfl)) ?_
       refine TA.tk 18 524287 rfl rfl rfl (Val.pickOr rfl rfl rfl) ?_
       refine TA.tk 19 1048575 rfl rfl rfl (Val.assign rfl) ?_
       refine TA.done (by kernel_rfl) ?_
       refine AtX.then ?_
       refine TC.en (E' := [(0, _), (7, _), (12, _), (59, _)]) ?_
       refine TC.cond rfl (fun c5 => ?_) (fun c5 => ?_)
       ·
        refine TC.en (E' := [(12, _)]) ?_
        refine TC.sr ?_
        refine TL.v (Val.assign rfl) ?_
        refine TL.nt ?_
        refine TC.en (E' := [(12, _)]) ?_
        refine TC.ret1 (fn := Tryz.f38) (fun _ _ h => h) rfl (RV.tmp rfl) (M' := (gateO gb c rb (some ⟨nb, 0, none⟩) N cn (some ⟨ob, 0, none⟩) N co ref :: ringO rb c.seed lb N c.grace (asked + 1) :: (lb, row 127 (ones.flatMap On.cs)) :: (nb, row 62 (nws.map pp ++ sn)) :: (ob, row 62 (ols.map pp ++ so)) :: T)) (fun w h => (ro_mv (A := [_, _, _, _, _]) (L := [_, _, _]) w h).drop.drop.drop) ?_
        refine ⟨?_, rfl⟩
        refine congrArg (Value.int .i64) ?_
        unfold chkC
        clear hN h1 h2 h3 hgr has hx hxb hxs hgen hk2 hp hp2 htop hrep hsq hep hnow hA hnn htx hkN hfr hwin hc
        generalize bitsOf .or .u64 (xor64 (tagOf (if okK x (sgen kind gen) now c.grace = true then (macKey c.seed (k : Nat) (sgen kind gen)) else ⟨0, 0⟩) tx).a tg.a) (xor64 (tagOf (if okK x (sgen kind gen) now c.grace = true then (macKey c.seed (k : Nat) (sgen kind gen)) else ⟨0, 0⟩) tx).b tg.b) = o2 at *
        generalize okK x (sgen kind gen) now c.grace = o1 at *
        generalize mayP c.window top bits sq = o3 at *
        generalize IntKind.u64.wrap (ep - now) = o4 at *
        try clear hg3 hg4 c1
        cases o1 <;> cases o3 <;> grind
       ·
        refine TC.en (E' := [(0, _), (7, _), (12, _)]) ?_
        refine TC.seq ?_
        refine TC.drawLM mixed 9 ?_
        refine TA.tk 0 1 rfl rfl rfl (Val.fieldAddr rfl fl39_6 sz3 rfl) ?_
        refine TA.tk 1 3 rfl rfl rfl (Val.load 7 rfl ag3 rfl rfl) ?_
        refine TA.tk 2 7 rfl rfl rfl (Val.move rfl) ?_
        refine TA.tk 3 15 rfl rfl rfl (Val.nilCheck rfl) ?_
        refine TA.tk 4 31 rfl rfl rfl (Val.fieldAddr rfl fl90_0 sz26 rfl) ?_
        refine TA.tk 5 63 rfl rfl rfl (Val.fieldAddr rfl fl26_2 sz3 rfl) ?_
        refine TA.tk 6 127 rfl rfl rfl (Val.load 0 rfl ag3 rfl rfl) ?_
        refine TA.tk 7 255 rfl rfl rfl (Val.geq rfl rfl) ?_
        refine TA.tk 8 511 rfl rfl rfl (Val.assign rfl) ?_
        refine TA.done (by kernel_rfl) ?_
        refine AtX.then ?_
        refine TC.en (E' := [(12, _), (79, _)]) ?_
        refine TC.condP rfl (fun c6 => ?_) (fun c6 => ?_)
        ·
         refine TC.en (E' := [(12, _)]) ?_
         refine TC.sr ?_
         refine TL.v (Val.assign rfl) ?_
         refine TL.nt ?_
         refine TC.en (E' := [(12, _)]) ?_
         refine TC.ret1 (fn := Tryz.f38) (fun _ _ h => h) rfl (RV.tmp rfl) (M' := (gateO gb c rb (some ⟨nb, 0, none⟩) N cn (some ⟨ob, 0, none⟩) N co ref :: ringO rb c.seed lb N c.grace (asked + 1) :: (lb, row 127 (ones.flatMap On.cs)) :: (nb, row 62 (nws.map pp ++ sn)) :: (ob, row 62 (ols.map pp ++ so)) :: T)) (fun w h => (ro_mv (A := [_, _, _, _, _]) (L := [_, _, _]) w h).drop.drop.drop) ?_
         refine ⟨?_, rfl⟩
         refine congrArg (Value.int .i64) ?_
         unfold chkC
         clear hN h1 h2 h3 hgr has hx hxb hxs hgen hk2 hp hp2 htop hrep hsq hep hnow hA hnn htx hkN hfr hwin hc
         generalize bitsOf .or .u64 (xor64 (tagOf (if okK x (sgen kind gen) now c.grace = true then (macKey c.seed (k : Nat) (sgen kind gen)) else ⟨0, 0⟩) tx).a tg.a) (xor64 (tagOf (if okK x (sgen kind gen) now c.grace = true then (macKey c.seed (k : Nat) (sgen kind gen)) else ⟨0, 0⟩) tx).b tg.b) = o2 at *
         generalize okK x (sgen kind gen) now c.grace = o1 at *
         generalize mayP c.window top bits sq = o3 at *
         generalize IntKind.u64.wrap (ep - now) = o4 at *
         try clear hg3 hg4 c1
         cases o1 <;> cases o3 <;> grind
        ·
         refine TC.en (E' := [(12, _)]) ?_
         refine TC.skip ?_
         refine AtX.blk ?_
         refine AtX.then ?_
         refine TC.en (E' := [(12, _)]) ?_
         refine TC.sr ?_
         refine TL.v (Val.assign rfl) ?_
         refine TL.nt ?_
         refine TC.en (E' := [(12, _)]) ?_
         refine TC.ret1 (fn := Tryz.f38) (fun _ _ h => h) rfl (RV.tmp rfl) (M' := (gateO gb c rb (some ⟨nb, 0, none⟩) N cn (some ⟨ob, 0, none⟩) N co ref :: ringO rb c.seed lb N c.grace (asked + 1) :: (lb, row 127 (ones.flatMap On.cs)) :: (nb, row 62 (nws.map pp ++ sn)) :: (ob, row 62 (ols.map pp ++ so)) :: T)) (fun w h => (ro_mv (A := [_, _, _, _, _]) (L := [_, _, _]) w h).drop.drop.drop) ?_
         refine ⟨?_, rfl⟩
         refine congrArg (Value.int .i64) ?_
         unfold chkC
         clear hN h1 h2 h3 hgr has hx hxb hxs hgen hk2 hp hp2 htop hrep hsq hep hnow hA hnn htx hkN hfr hwin hc
         generalize bitsOf .or .u64 (xor64 (tagOf (if okK x (sgen kind gen) now c.grace = true then (macKey c.seed (k : Nat) (sgen kind gen)) else ⟨0, 0⟩) tx).a tg.a) (xor64 (tagOf (if okK x (sgen kind gen) now c.grace = true then (macKey c.seed (k : Nat) (sgen kind gen)) else ⟨0, 0⟩) tx).b tg.b) = o2 at *
         generalize okK x (sgen kind gen) now c.grace = o1 at *
         generalize mayP c.window top bits sq = o3 at *
         generalize IntKind.u64.wrap (ep - now) = o4 at *
         try clear hg3 hg4 c1
         cases o1 <;> cases o3 <;> grind
  | true =>
   (exfalso; simp at hg4)
 | true =>
  (exfalso; grind)

end Go.Proofs.YtphoapajlcaoeaaGreat
/- walks -/
set_option linter.unusedVariables false
set_option linter.unusedSimpArgs false
set_option maxRecDepth 100000
set_option maxHeartbeats 4000000
namespace Go.Proofs.YtphoapajlcaoeaaGreat
open Go Go.X
/-- (*quorumite/verify.Gate).Check -/
theorem Check_nil (gb rb lb nb cn ob co : Nat) (sn so : List Value) (c : Cf) (N : Nat) (asked ref : Int) (ones : List On) (nws ols : List Nat) (T : Hp) (hN : c.n = N) (h1 : ones.length = N) (h2 : nws.length = N) (h3 : ols.length = N) (hgr : 1 ≤ c.grace ∧ c.grace ≤ 100) (has : 0 ≤ asked ∧ asked ≤ 90000) (k : Nat) (x : On) (hx : ones[k]? = some x) (hxb : 0 ≤ x.gen ∧ x.gen ≤ 60000) (hxs : 0 ≤ x.since ∧ x.since ≤ 1099511627776) (kind gen sq ep va me : Int) (hgen : -1000000 ≤ gen ∧ gen ≤ 1000000) (hk2 : kind = 2 → gen - 1 = x.gen) (now : Int) (hc : OkC c) (p p2 : Nat) (hp : nws[k]? = some p) (hp2 : ols[k]? = some p2) (ip : Nat) (top bits rr : Int) (htop : 0 ≤ top ∧ top ≤ 1000000) (hrep : T[ip]? = some (repO (if sgen kind gen = x.gen then p else p2) c.window top bits rr)) (hnow : 0 ≤ now ∧ now ≤ 1099511627776) (hm : mayM ⟨kind, (k : Nat), gen, sq, ep, va, me⟩ = true) (href : 0 ≤ ref ∧ ref ≤ 100000) (tl : List UInt8) (A : Option Addr) (cc : Nat) (hA : RdS T A (bv (putM ⟨kind, (k : Nat), gen, sq, ep, va, me⟩ ++ tl))) (hcc : 48 ≤ cc) (htl : tl.length = 16)  : FnC Tryz.prog 10 #[.pointer (some ⟨gb, 0, none⟩), .slice A 48 cc, .int .i64 now, .nilFunc] (gateO gb c rb (some ⟨nb, 0, none⟩) N cn (some ⟨ob, 0, none⟩) N co ref :: ringO rb c.seed lb N c.grace asked :: (lb, row 127 (ones.flatMap On.cs)) :: (nb, row 62 (nws.map pp ++ sn)) :: (ob, row 62 (ols.map pp ++ so)) :: T) (fun v M' => ((chkC (okK x (sgen kind gen) now c.grace) (decide (bitsOf .or .u64 (xor64 (tagOf (if okK x (sgen kind gen) now c.grace = true then (macKey c.seed (k : Nat) (sgen kind gen)) else ⟨0, 0⟩) (putM ⟨kind, (k : Nat), gen, sq, ep, va, me⟩)).a (⟨((get8 tl 0 : Nat) : Int), ((get8 tl 8 : Nat) : Int)⟩ : K2).a) (xor64 (tagOf (if okK x (sgen kind gen) now c.grace = true then (macKey c.seed (k : Nat) (sgen kind gen)) else ⟨0, 0⟩) (putM ⟨kind, (k : Nat), gen, sq, ep, va, me⟩)).b (⟨((get8 tl 0 : Nat) : Int), ((get8 tl 8 : Nat) : Int)⟩ : K2).b) = 0)) (mayP c.window top bits sq) (decide (ep < now) || decide (c.fresh ≤ IntKind.u64.wrap (ep - now))) (decide (me < c.m))) = 0 ∧ v = .tuple #[.agg #[.int .i64 kind, .int .i64 ((k : Nat) : Int), .int .i64 gen, .int .i64 sq, .int .i64 ep, .int .i64 va, .int .i64 me], .int .i64 0] ∧ M' = (gateO gb c rb (some ⟨nb, 0, none⟩) N cn (some ⟨ob, 0, none⟩) N co ref :: ringO rb c.seed lb N c.grace (asked + 1) :: (lb, row 127 (ones.flatMap On.cs)) :: (nb, row 62 (nws.map pp ++ sn)) :: (ob, row 62 (ols.map pp ++ so)) :: T)) ∨ ((chkC (okK x (sgen kind gen) now c.grace) (decide (bitsOf .or .u64 (xor64 (tagOf (if okK x (sgen kind gen) now c.grace = true then (macKey c.seed (k : Nat) (sgen kind gen)) else ⟨0, 0⟩) (putM ⟨kind, (k : Nat), gen, sq, ep, va, me⟩)).a (⟨((get8 tl 0 : Nat) : Int), ((get8 tl 8 : Nat) : Int)⟩ : K2).a) (xor64 (tagOf (if okK x (sgen kind gen) now c.grace = true then (macKey c.seed (k : Nat) (sgen kind gen)) else ⟨0, 0⟩) (putM ⟨kind, (k : Nat), gen, sq, ep, va, me⟩)).b (⟨((get8 tl 0 : Nat) : Int), ((get8 tl 8 : Nat) : Int)⟩ : K2).b) = 0)) (mayP c.window top bits sq) (decide (ep < now) || decide (c.fresh ≤ IntKind.u64.wrap (ep - now))) (decide (me < c.m))) ≠ 0 ∧ v = .tuple #[.agg #[.int .i64 0, .int .i64 0, .int .i64 0, .int .i64 0, .int .i64 0, .int .i64 0, .int .i64 0], .int .i64 (chkC (okK x (sgen kind gen) now c.grace) (decide (bitsOf .or .u64 (xor64 (tagOf (if okK x (sgen kind gen) now c.grace = true then (macKey c.seed (k : Nat) (sgen kind gen)) else ⟨0, 0⟩) (putM ⟨kind, (k : Nat), gen, sq, ep, va, me⟩)).a (⟨((get8 tl 0 : Nat) : Int), ((get8 tl 8 : Nat) : Int)⟩ : K2).a) (xor64 (tagOf (if okK x (sgen kind gen) now c.grace = true then (macKey c.seed (k : Nat) (sgen kind gen)) else ⟨0, 0⟩) (putM ⟨kind, (k : Nat), gen, sq, ep, va, me⟩)).b (⟨((get8 tl 0 : Nat) : Int), ((get8 tl 8 : Nat) : Int)⟩ : K2).b) = 0)) (mayP c.window top bits sq) (decide (ep < now) || decide (c.fresh ≤ IntKind.u64.wrap (ep - now))) (decide (me < c.m)))] ∧ M' = (gateO gb c rb (some ⟨nb, 0, none⟩) N cn (some ⟨ob, 0, none⟩) N co (ref + 1) :: ringO rb c.seed lb N c.grace (asked + 1) :: (lb, row 127 (ones.flatMap On.cs)) :: (nb, row 62 (nws.map pp ++ sn)) :: (ob, row 62 (ols.map pp ++ so)) :: T))) := by
 obtain ⟨C, hC⟩ : ∃ C, C = chkC (okK x (sgen kind gen) now c.grace) (decide (bitsOf .or .u64 (xor64 (tagOf (if okK x (sgen kind gen) now c.grace = true then (macKey c.seed (k : Nat) (sgen kind gen)) else ⟨0, 0⟩) (putM ⟨kind, (k : Nat), gen, sq, ep, va, me⟩)).a (⟨((get8 tl 0 : Nat) : Int), ((get8 tl 8 : Nat) : Int)⟩ : K2).a) (xor64 (tagOf (if okK x (sgen kind gen) now c.grace = true then (macKey c.seed (k : Nat) (sgen kind gen)) else ⟨0, 0⟩) (putM ⟨kind, (k : Nat), gen, sq, ep, va, me⟩)).b (⟨((get8 tl 0 : Nat) : Int), ((get8 tl 8 : Nat) : Int)⟩ : K2).b) = 0)) (mayP c.window top bits sq) (decide (ep < now) || decide (c.fresh ≤ IntKind.u64.wrap (ep - now))) (decide (me < c.m)) := ⟨_, rfl⟩
 rw [← hC]
 have hmi := mayM_iff.1 hm
 simp only at hmi
 refine FnC.intro Tryz.func10 rfl 42 rfl (by simp) (fun z => ?_)
 refine TC.en (E' := [(0, _), (1, _), (2, _), (3, _)]) ?_
 refine TC.sr ?_
 refine TL.d (Does.alloc ze39 rfl) ?_
 rintro _ _ ⟨b1, rfl, rfl⟩
 refine TL.v (Val.assign rfl) ?_
 refine TL.nt ?_
 refine TC.seq ?_
 refine TC.sr ?_
 refine TL.v (Val.move rfl) ?_
 refine TL.v (Val.eqlNil rfl rfl pt28) ?_
 refine TL.nt ?_
 refine TC.en (E' := [(0, _), (1, _), (2, _), (3, _), (8, _), (9, _), (15, _)]) ?_
 refine TC.cond rfl (fun c1 => ?_) (fun c1 => ?_)
 ·
  (exfalso; simp at c1)
 ·
  refine TC.en (E' := [(0, _), (1, _), (2, _), (3, _), (8, _), (9, _)]) ?_
  refine TC.skip ?_
  refine AtX.then ?_
  refine TC.en (E' := [(0, _), (1, _), (2, _), (3, _), (8, _), (9, _)]) ?_
  refine TC.sr ?_
  refine TL.v (Val.move rfl) ?_
  refine TL.d (Does.callF go37 rfl (Split_fn ⟨kind, (k : Nat), gen, sq, ep, va, me⟩ tl A 48 cc _ ((((((hA.cons _).cons _).cons _).cons _).cons _).cons _) rfl hcc htl hm)) ?_
  rintro _ _ ⟨σ, rfl, hokσ, rfl⟩
  obtain ⟨bc, cc2, spc, rfl, hcc2⟩ := hokσ.some (by omega)
  refine TL.v (Val.move rfl) ?_
  refine TL.v (Val.extract rfl rfl) ?_
  refine TL.v (Val.extract rfl rfl) ?_
  refine TL.v (Val.extract rfl rfl) ?_
  refine TL.v (Val.extract rfl rfl) ?_
  refine TL.d (Does.alloc ze39 rfl) ?_
  rintro _ _ ⟨bM, rfl, rfl⟩
  refine TL.d (Does.alloc ze98 rfl) ?_
  rintro _ _ ⟨bT_, rfl, rfl⟩
  refine TL.d (Does.store (i := 1) rfl rfl rfl sz39 rfl rfl (by first | exact Nat.le_of_ble_eq_true rfl | decide | omega) rfl rfl) ?_
  rintro _ _ ⟨rfl, rfl⟩
  refine TL.v (Val.assign rfl) ?_
  refine TL.d (Does.store (i := 0) rfl rfl rfl sz98 rfl rfl (by first | exact Nat.le_of_ble_eq_true rfl | decide | omega) rfl rfl) ?_
  rintro _ _ ⟨rfl, rfl⟩
  refine TL.v (Val.assign rfl) ?_
  refine TL.nt ?_
  refine TC.en (E' := [(0, _), (2, _), (3, _), (8, _), (9, _), (10, _), (11, _), (12, _), (13, _)]) ?_
  refine TC.seq ?_
  refine TC.seq ?_
  refine TC.heap (M' := (gateO gb c rb (some ⟨nb, 0, none⟩) N cn (some ⟨ob, 0, none⟩) N co ref :: ringO rb c.seed lb N c.grace asked :: (lb, row 127 (ones.flatMap On.cs)) :: (nb, row 62 (nws.map pp ++ sn)) :: (ob, row 62 (ols.map pp ++ so)) :: ((bT_, .cells #[.int .u64 ((get8 tl 0 : Nat) : Int), .int .u64 ((get8 tl 8 : Nat) : Int)] 98 (0, 0)) :: (bM, .cells #[.int .i64 kind, .int .i64 ((k : Nat) : Int), .int .i64 gen, .int .i64 sq, .int .i64 ep, .int .i64 va, .int .i64 me] 39 (0, 0)) :: (bc, row 5 (bv (putM ⟨kind, (k : Nat), gen, sq, ep, va, me⟩) ++ spc)) :: (b1, .cells #[.int .i64 0, .int .i64 0, .int .i64 0, .int .i64 0, .int .i64 0, .int .i64 0, .int .i64 0] 39 (0, 0)) :: T))) (fun w h => ro_mv (A := [_, _, _, _]) (L := [_, _, _, _, _]) w h) ?_
  refine TC.region ?_
  refine TL.v (Val.move rfl) ?_
  refine TL.v (Val.eqlI rfl rfl) ?_
  refine TL.nt ?_
  refine TC.en (E' := [(0, _), (2, _), (3, _), (8, _), (9, _), (10, _), (11, _), (12, _), (13, _), (25, _)]) ?_
  refine TC.condP rfl (fun c2 => ?_) (fun c2 => ?_)
  ·
   refine TC.en (E' := [(0, _), (2, _), (3, _), (8, _), (9, _), (10, _), (11, _), (12, _), (13, _)]) ?_
   refine TC.region ?_
   refine TL.v (Val.move rfl) ?_
   refine TL.v (Val.loadAgg 6 rfl ag39 sz39 rfl rfl rfl) ?_
   refine TL.v (Val.move rfl) ?_
   refine TL.v (Val.loadAgg 5 rfl ag98 sz98 rfl rfl rfl) ?_
   refine TL.v (Val.move rfl) ?_
   refine TL.v (Val.move rfl) ?_
   refine TL.d (Does.callF go38 rfl (check_nil gb rb lb nb cn ob co sn so c N asked ref ones nws ols _ hN h1 h2 h3 hgr has k x hx hxb hxs kind gen sq ep va me hgen hk2 now hc p p2 hp hp2 (ip + 4) top bits rr htop hrep ⟨by omega, by omega⟩ ⟨by omega, by omega⟩ hnow (putM ⟨kind, (k : Nat), gen, sq, ep, va, me⟩) _ 32 cc2 (rd_all (i := 2) rfl) (by simp) (by simp) ⟨((get8 tl 0 : Nat) : Int), ((get8 tl 8 : Nat) : Int)⟩)) ?_
   rintro _ _ ⟨rfl, rfl⟩
   rw [← hC]
   refine TL.v (Val.assign rfl) ?_
   refine TL.nt ?_
   refine TC.en (E' := [(0, _), (8, _), (9, _), (10, _), (13, _)]) ?_
   refine TC.seq ?_
   refine TC.sr ?_
   refine TL.v (Val.move rfl) ?_
   refine TL.v (Val.neqI rfl rfl) ?_
   refine TL.nt ?_
   refine TC.en (E' := [(0, _), (8, _), (9, _), (10, _), (13, _), (34, _)]) ?_
   refine TC.condP rfl (fun c3 => ?_) (fun c3 => ?_)
   ·
    refine TC.en (E' := [(0, _), (8, _), (9, _), (10, _), (13, _)]) ?_
    refine TC.sr ?_
    refine TL.v (Val.move rfl) ?_
    refine TL.v (Val.nilCheck rfl) ?_
    refine TL.v (Val.fieldAddr rfl fl90_4 sz88 rfl) ?_
    refine TL.d (Does.callF go39 rfl (aAdd_fn gb 29 0 _ _ ref 1 (ref + 1) _ rfl rfl (w_i64 (by omega) (by omega)))) ?_
    rintro _ _ ⟨rfl, rfl⟩
    refine TL.nt ?_
    refine TC.en (E' := [(8, _), (9, _), (10, _), (13, _)]) ?_
    refine TC.sr ?_
    refine TL.v (Val.buildS pl39 ze39 rfl rfl) ?_
    refine TL.v (Val.move rfl) ?_
    refine TL.d (Does.store (i := 8) rfl rfl rfl sz39 rfl rfl (by first | exact Nat.le_of_ble_eq_true rfl | decide | omega) rfl rfl) ?_
    rintro _ _ ⟨rfl, rfl⟩
    refine TL.v (Val.assign rfl) ?_
    refine TL.nt ?_
    refine TC.en (E' := [(8, _), (9, _), (10, _)]) ?_
    refine TC.ret2 (fn := Tryz.f10) (fun _ _ h => h) rfl (RV.agg (i := 8) rfl ag39 sz39 rfl rfl rfl) (RV.tmp rfl) (M' := (gateO gb c rb (some ⟨nb, 0, none⟩) N cn (some ⟨ob, 0, none⟩) N co (ref + 1) :: ringO rb c.seed lb N c.grace (asked + 1) :: (lb, row 127 (ones.flatMap On.cs)) :: (nb, row 62 (nws.map pp ++ sn)) :: (ob, row 62 (ols.map pp ++ so)) :: T)) (fun w h => (ro_mv (A := [_, _, _, _, _]) (L := [_, _, _, _]) w h).drop.drop.drop.drop) ?_
    first | exact .inl ⟨by omega, rfl, rfl⟩ | exact .inr ⟨by assumption, rfl, rfl⟩
   ·
    refine TC.en (E' := [(8, _), (9, _), (10, _)]) ?_
    refine TC.skip ?_
    refine AtX.then ?_
    refine TC.en (E' := [(8, _), (9, _), (10, _)]) ?_
    refine TC.sr ?_
    refine TL.v (Val.loadAgg 6 rfl ag39 sz39 rfl rfl rfl) ?_
    refine TL.d (Does.store (i := 8) rfl rfl rfl sz39 rfl rfl (by first | exact Nat.le_of_ble_eq_true rfl | decide | omega) rfl rfl) ?_
    rintro _ _ ⟨rfl, rfl⟩
    refine TL.v (Val.assign rfl) ?_
    refine TL.nt ?_
    refine TC.en (E' := [(8, _), (9, _)]) ?_
    refine TC.ret2 (fn := Tryz.f10) (fun _ _ h => h) rfl (RV.agg (i := 8) rfl ag39 sz39 rfl rfl rfl) (RV.tmp rfl) (M' := (gateO gb c rb (some ⟨nb, 0, none⟩) N cn (some ⟨ob, 0, none⟩) N co ref :: ringO rb c.seed lb N c.grace (asked + 1) :: (lb, row 127 (ones.flatMap On.cs)) :: (nb, row 62 (nws.map pp ++ sn)) :: (ob, row 62 (ols.map pp ++ so)) :: T)) (fun w h => (ro_mv (A := [_, _, _, _, _]) (L := [_, _, _, _]) w h).drop.drop.drop.drop) ?_
    first | exact .inl ⟨by omega, rfl, rfl⟩ | exact .inr ⟨by assumption, rfl, rfl⟩
  ·
   exact absurd rfl c2

end Go.Proofs.YtphoapajlcaoeaaGreat
/- walks -/
set_option linter.unusedVariables false
set_option linter.unusedSimpArgs false
set_option maxRecDepth 100000
set_option maxHeartbeats 4000000
namespace Go.Proofs.YtphoapajlcaoeaaGreat
open Go Go.X
/-- quorumite/verify.New -/
theorem gNew_nil (c : Cf) (M : Hp) (hn : 0 ≤ c.n ∧ c.n ≤ 1000) (hf : 0 ≤ c.f ∧ c.f ≤ 16) (ht : tg c) (h1 : c.n < 1) : FnC Tryz.prog 6 #[.agg #[.int .i64 (c.n), .int .i64 (c.f), .int .i64 (c.m), .int .i64 (c.quorum), .int .i64 (c.fresh), .int .i64 (c.grace), .int .i64 (c.window), .int .i64 (c.t0), .int .i64 (c.t1), .int .i64 (c.t2), .int .i64 (c.t3), .int .i64 (c.tol), .int .i64 (c.min), .int .i64 (c.max), .int .i64 (c.calmup), .int .i64 (c.calmdown), .int .i64 (c.podsup), .int .i64 (c.pctup), .int .i64 (c.podsdown), .int .i64 (c.pctdown), .int .i64 (c.period), .int .i64 (c.far), .int .i64 (c.strikes), .int .i64 (c.probe), .int .i64 (c.sectors), .int .u64 (c.seed)]] M (fun v M' => v = .pointer none ∧ M = M') := by
 refine FnC.intro Tryz.func6 rfl 47 rfl (by simp) (fun z => ?_)
 refine TC.en (E' := [(0, _)]) ?_
 refine TC.sr ?_
 refine TL.d (Does.box rfl rfl) ?_
 rintro _ _ ⟨b1, rfl, rfl⟩
 refine TL.v (Val.assign rfl) ?_
 refine TL.nt ?_
 refine TC.en (E' := [(1, _), (2, _)]) ?_
 refine TC.seq ?_
 refine TC.sr ?_
 refine TL.v (Val.loadAgg 0 rfl ag26 sz26 rfl rfl rfl) ?_
 refine TL.d (Does.callF go29 rfl (cMay_no c _ hn hf ht h1)) ?_
 rintro _ _ ⟨rfl, rfl⟩
 refine TL.v (Val.not rfl) ?_
 refine TL.nt ?_
 refine TC.en (E' := [(1, _), (2, _), (6, _)]) ?_
 refine TC.condB rfl (fun c1 => ?_) (fun c1 => ?_)
 ·
  refine TC.en (E' := [(1, _), (2, _)]) ?_
  refine TC.sr ?_
  refine TL.v (Val.assign rfl) ?_
  refine TL.nt ?_
  refine TC.en (E' := [(1, _), (2, _)]) ?_
  refine TC.ret1 (fn := Tryz.f6) (fun _ _ h => h) rfl (RV.tmp rfl) (M' := M) (by repeat (first | exact ro_refl | exact ro_pre | refine ro_tail ?_ | refine ro_app ?_)) ?_
  exact ⟨rfl, rfl⟩
 ·
  cases c1

/-- (*quorumite/verify.Gate).Ring -/
theorem gRing_fn (gb rb lb nb cn ob co : Nat) (sn so : List Value) (c : Cf) (N : Nat) (asked ref : Int) (ones : List On) (nws ols : List Nat) (T : Hp)  : FnC Tryz.prog 20 #[.pointer (some ⟨gb, 0, none⟩)] (gateO gb c rb (some ⟨nb, 0, none⟩) N cn (some ⟨ob, 0, none⟩) N co ref :: ringO rb c.seed lb N c.grace asked :: (lb, row 127 (ones.flatMap On.cs)) :: (nb, row 62 (nws.map pp ++ sn)) :: (ob, row 62 (ols.map pp ++ so)) :: T) (fun v M' => v = .pointer (some ⟨rb, 0, none⟩) ∧ (gateO gb c rb (some ⟨nb, 0, none⟩) N cn (some ⟨ob, 0, none⟩) N co ref :: ringO rb c.seed lb N c.grace asked :: (lb, row 127 (ones.flatMap On.cs)) :: (nb, row 62 (nws.map pp ++ sn)) :: (ob, row 62 (ols.map pp ++ so)) :: T) = M') := by
 refine FnC.intro Tryz.func20 rfl 9 rfl (by simp) (fun z => ?_)
 refine TC.en (E' := [(0, _)]) ?_
 refine TC.sr ?_
 refine TL.v (Val.assign rfl) ?_
 refine TL.nt ?_
 refine TC.seq ?_
 refine TC.sr ?_
 refine TL.v (Val.move rfl) ?_
 refine TL.v (Val.eqlNil rfl rfl pt28) ?_
 refine TL.nt ?_
 refine TC.en (E' := [(0, _), (2, _), (4, _)]) ?_
 refine TC.cond rfl (fun c1 => ?_) (fun c1 => ?_)
 ·
  (exfalso; simp at c1)
 ·
  refine TC.en (E' := [(0, _), (2, _)]) ?_
  refine TC.skip ?_
  refine AtX.then ?_
  refine TC.en (E' := [(0, _), (2, _)]) ?_
  refine TC.sr ?_
  refine TL.v (Val.move rfl) ?_
  refine TL.v (Val.nilCheck rfl) ?_
  refine TL.v (Val.fieldAddr rfl fl90_1 sz60 rfl) ?_
  refine TL.v (Val.load 0 rfl ag60 rfl rfl) ?_
  refine TL.v (Val.assign rfl) ?_
  refine TL.nt ?_
  refine TC.en (E' := [(2, _)]) ?_
  refine TC.ret1 (fn := Tryz.f20) (fun _ _ h => h) rfl (RV.tmp rfl) (fun _ h => h) ?_
  exact ⟨rfl, rfl⟩

/-- (*quorumite/verify.Gate).Replay -/
theorem gReplay_fn (gb rb lb nb cn ob co : Nat) (sn so : List Value) (c : Cf) (N : Nat) (asked ref : Int) (ones : List On) (nws ols : List Nat) (T : Hp) (k : Nat) (hkN : k < N) (p : Nat) (hp : nws[k]? = some p) : FnC Tryz.prog 21 #[.pointer (some ⟨gb, 0, none⟩), .int .i64 (k : Nat)] (gateO gb c rb (some ⟨nb, 0, none⟩) N cn (some ⟨ob, 0, none⟩) N co ref :: ringO rb c.seed lb N c.grace asked :: (lb, row 127 (ones.flatMap On.cs)) :: (nb, row 62 (nws.map pp ++ sn)) :: (ob, row 62 (ols.map pp ++ so)) :: T) (fun v M' => v = .pointer (some ⟨p, 0, none⟩) ∧ (gateO gb c rb (some ⟨nb, 0, none⟩) N cn (some ⟨ob, 0, none⟩) N co ref :: ringO rb c.seed lb N c.grace asked :: (lb, row 127 (ones.flatMap On.cs)) :: (nb, row 62 (nws.map pp ++ sn)) :: (ob, row 62 (ols.map pp ++ so)) :: T) = M') := by
 refine FnC.intro Tryz.func21 rfl 27 rfl (by simp) (fun z => ?_)
 refine TC.en (E' := [(0, _), (1, _)]) ?_
 refine TC.sr ?_
 refine TL.v (Val.assign rfl) ?_
 refine TL.nt ?_
 refine TC.seq ?_
 refine TC.sr ?_
 refine TL.v (Val.move rfl) ?_
 refine TL.v (Val.eqlNil rfl rfl pt28) ?_
 refine TL.v (Val.move rfl) ?_
 refine TL.gen (fun g1 hg1 => ?_)
 refine TL.gv rfl rfl rfl (fun hg => by subst hg; exact (Val.move rfl)) ?_
 refine TL.gv rfl rfl rfl (fun hg => by subst hg; exact (Val.lss rfl rfl)) ?_
 refine TL.v (Val.pickOr rfl rfl rfl) ?_
 refine TL.v (Val.move rfl) ?_
 refine TL.gen (fun g2 hg2 => ?_)
 refine TL.gv rfl rfl rfl (fun hg => by subst hg; exact (Val.move rfl)) ?_
 refine TL.gv rfl rfl rfl (fun hg => by subst hg; exact (Val.move rfl)) ?_
 refine TL.gv rfl rfl rfl (fun hg => by subst hg; exact (Val.nilCheck rfl)) ?_
 refine TL.gv rfl rfl rfl (fun hg => by subst hg; exact (Val.fieldAddr rfl fl90_2 sz83 rfl)) ?_
 refine TL.gv rfl rfl rfl (fun hg => by subst hg; exact (Val.load 0 rfl ag83 rfl rfl)) ?_
 refine TL.gv rfl rfl rfl (fun hg => by subst hg; exact (Val.lenSl rfl rfl sl83)) ?_
 refine TL.gv rfl rfl rfl (fun hg => by subst hg; exact (Val.geq rfl rfl)) ?_
 refine TL.v (Val.pickOr rfl rfl rfl) ?_
 refine TL.nt ?_
 refine TC.en (E' := [(0, _), (1, _), (4, _), (19, _)]) ?_
 refine TC.cond rfl (fun c1 => ?_) (fun c1 => ?_)
 ·
  (exfalso; grind)
 ·
  refine TC.en (E' := [(0, _), (1, _), (4, _)]) ?_
  refine TC.skip ?_
  refine AtX.then ?_
  refine TC.en (E' := [(0, _), (1, _), (4, _)]) ?_
  refine TC.sr ?_
  refine TL.v (Val.move rfl) ?_
  refine TL.v (Val.nilCheck rfl) ?_
  refine TL.v (Val.fieldAddr rfl fl90_2 sz83 rfl) ?_
  refine TL.v (Val.load 0 rfl ag83 rfl rfl) ?_
  refine TL.v (Val.move rfl) ?_
  refine TL.v (Val.indexAddr (i := k) (r := k) rfl rfl sl83 sz62 rfl hkN (by omega)) ?_
  refine TL.v (Val.loadRd (o := 0) (j := k) rfl ag62 (rd_row0 (i := 3) (l := nws.map pp) rfl) (by omega) (map_get hp)) ?_
  refine TL.v (Val.assign rfl) ?_
  refine TL.nt ?_
  refine TC.en (E' := [(4, _)]) ?_
  refine TC.ret1 (fn := Tryz.f21) (fun _ _ h => h) rfl (RV.tmp rfl) (fun _ h => h) ?_
  exact ⟨rfl, rfl⟩

/-- (*quorumite/verify.Gate).Old -/
theorem gOld_fn (gb rb lb nb cn ob co : Nat) (sn so : List Value) (c : Cf) (N : Nat) (asked ref : Int) (ones : List On) (nws ols : List Nat) (T : Hp) (k : Nat) (hkN : k < N) (p : Nat) (hp : ols[k]? = some p) : FnC Tryz.prog 22 #[.pointer (some ⟨gb, 0, none⟩), .int .i64 (k : Nat)] (gateO gb c rb (some ⟨nb, 0, none⟩) N cn (some ⟨ob, 0, none⟩) N co ref :: ringO rb c.seed lb N c.grace asked :: (lb, row 127 (ones.flatMap On.cs)) :: (nb, row 62 (nws.map pp ++ sn)) :: (ob, row 62 (ols.map pp ++ so)) :: T) (fun v M' => v = .pointer (some ⟨p, 0, none⟩) ∧ (gateO gb c rb (some ⟨nb, 0, none⟩) N cn (some ⟨ob, 0, none⟩) N co ref :: ringO rb c.seed lb N c.grace asked :: (lb, row 127 (ones.flatMap On.cs)) :: (nb, row 62 (nws.map pp ++ sn)) :: (ob, row 62 (ols.map pp ++ so)) :: T) = M') := by
 refine FnC.intro Tryz.func22 rfl 27 rfl (by simp) (fun z => ?_)
 refine TC.en (E' := [(0, _), (1, _)]) ?_
 refine TC.sr ?_
 refine TL.v (Val.assign rfl) ?_
 refine TL.nt ?_
 refine TC.seq ?_
 refine TC.sr ?_
 refine TL.v (Val.move rfl) ?_
 refine TL.v (Val.eqlNil rfl rfl pt28) ?_
 refine TL.v (Val.move rfl) ?_
 refine TL.gen (fun g1 hg1 => ?_)
 refine TL.gv rfl rfl rfl (fun hg => by subst hg; exact (Val.move rfl)) ?_
 refine TL.gv rfl rfl rfl (fun hg => by subst hg; exact (Val.lss rfl rfl)) ?_
 refine TL.v (Val.pickOr rfl rfl rfl) ?_
 refine TL.v (Val.move rfl) ?_
 refine TL.gen (fun g2 hg2 => ?_)
 refine TL.gv rfl rfl rfl (fun hg => by subst hg; exact (Val.move rfl)) ?_
 refine TL.gv rfl rfl rfl (fun hg => by subst hg; exact (Val.move rfl)) ?_
 refine TL.gv rfl rfl rfl (fun hg => by subst hg; exact (Val.nilCheck rfl)) ?_
 refine TL.gv rfl rfl rfl (fun hg => by subst hg; exact (Val.fieldAddr rfl fl90_3 sz83 rfl)) ?_
 refine TL.gv rfl rfl rfl (fun hg => by subst hg; exact (Val.load 0 rfl ag83 rfl rfl)) ?_
 refine TL.gv rfl rfl rfl (fun hg => by subst hg; exact (Val.lenSl rfl rfl sl83)) ?_
 refine TL.gv rfl rfl rfl (fun hg => by subst hg; exact (Val.geq rfl rfl)) ?_
 refine TL.v (Val.pickOr rfl rfl rfl) ?_
 refine TL.nt ?_
 refine TC.en (E' := [(0, _), (1, _), (4, _), (19, _)]) ?_
 refine TC.cond rfl (fun c1 => ?_) (fun c1 => ?_)
 ·
  (exfalso; grind)
 ·
  refine TC.en (E' := [(0, _), (1, _), (4, _)]) ?_
  refine TC.skip ?_
  refine AtX.then ?_
  refine TC.en (E' := [(0, _), (1, _), (4, _)]) ?_
  refine TC.sr ?_
  refine TL.v (Val.move rfl) ?_
  refine TL.v (Val.nilCheck rfl) ?_
  refine TL.v (Val.fieldAddr rfl fl90_3 sz83 rfl) ?_
  refine TL.v (Val.load 0 rfl ag83 rfl rfl) ?_
  refine TL.v (Val.move rfl) ?_
  refine TL.v (Val.indexAddr (i := k) (r := k) rfl rfl sl83 sz62 rfl hkN (by omega)) ?_
  refine TL.v (Val.loadRd (o := 0) (j := k) rfl ag62 (rd_row0 (i := 4) (l := ols.map pp) rfl) (by omega) (map_get hp)) ?_
  refine TL.v (Val.assign rfl) ?_
  refine TL.nt ?_
  refine TC.en (E' := [(4, _)]) ?_
  refine TC.ret1 (fn := Tryz.f22) (fun _ _ h => h) rfl (RV.tmp rfl) (fun _ h => h) ?_
  exact ⟨rfl, rfl⟩

/-- (*quorumite/verify.Gate).Replay -/
theorem gReplay_no (gb rb lb nb cn ob co : Nat) (sn so : List Value) (c : Cf) (N : Nat) (asked ref : Int) (ones : List On) (nws ols : List Nat) (T : Hp) (k : Nat) (hkN : N ≤ k) : FnC Tryz.prog 21 #[.pointer (some ⟨gb, 0, none⟩), .int .i64 (k : Nat)] (gateO gb c rb (some ⟨nb, 0, none⟩) N cn (some ⟨ob, 0, none⟩) N co ref :: ringO rb c.seed lb N c.grace asked :: (lb, row 127 (ones.flatMap On.cs)) :: (nb, row 62 (nws.map pp ++ sn)) :: (ob, row 62 (ols.map pp ++ so)) :: T) (fun v M' => v = .pointer none ∧ (gateO gb c rb (some ⟨nb, 0, none⟩) N cn (some ⟨ob, 0, none⟩) N co ref :: ringO rb c.seed lb N c.grace asked :: (lb, row 127 (ones.flatMap On.cs)) :: (nb, row 62 (nws.map pp ++ sn)) :: (ob, row 62 (ols.map pp ++ so)) :: T) = M') := by
 refine FnC.intro Tryz.func21 rfl 27 rfl (by simp) (fun z => ?_)
 refine TC.en (E' := [(0, _), (1, _)]) ?_
 refine TC.sr ?_
 refine TL.v (Val.assign rfl) ?_
 refine TL.nt ?_
 refine TC.seq ?_
 refine TC.sr ?_
 refine TL.v (Val.move rfl) ?_
 refine TL.v (Val.eqlNil rfl rfl pt28) ?_
 refine TL.v (Val.move rfl) ?_
 refine TL.gen (fun g1 hg1 => ?_)
 refine TL.gv rfl rfl rfl (fun hg => by subst hg; exact (Val.move rfl)) ?_
 refine TL.gv rfl rfl rfl (fun hg => by subst hg; exact (Val.lss rfl rfl)) ?_
 refine TL.v (Val.pickOr rfl rfl rfl) ?_
 refine TL.v (Val.move rfl) ?_
 refine TL.gen (fun g2 hg2 => ?_)
 refine TL.gv rfl rfl rfl (fun hg => by subst hg; exact (Val.move rfl)) ?_
 refine TL.gv rfl rfl rfl (fun hg => by subst hg; exact (Val.move rfl)) ?_
 refine TL.gv rfl rfl rfl (fun hg => by subst hg; exact (Val.nilCheck rfl)) ?_
 refine TL.gv rfl rfl rfl (fun hg => by subst hg; exact (Val.fieldAddr rfl fl90_2 sz83 rfl)) ?_
 refine TL.gv rfl rfl rfl (fun hg => by subst hg; exact (Val.load 0 rfl ag83 rfl rfl)) ?_
 refine TL.gv rfl rfl rfl (fun hg => by subst hg; exact (Val.lenSl rfl rfl sl83)) ?_
 refine TL.gv rfl rfl rfl (fun hg => by subst hg; exact (Val.geq rfl rfl)) ?_
 refine TL.v (Val.pickOr rfl rfl rfl) ?_
 refine TL.nt ?_
 refine TC.en (E' := [(0, _), (1, _), (4, _), (19, _)]) ?_
 refine TC.cond rfl (fun c1 => ?_) (fun c1 => ?_)
 ·
  refine TC.en (E' := [(0, _), (1, _), (4, _)]) ?_
  refine TC.sr ?_
  refine TL.v (Val.assign rfl) ?_
  refine TL.nt ?_
  refine TC.en (E' := [(0, _), (1, _), (4, _)]) ?_
  refine TC.ret1 (fn := Tryz.f21) (fun _ _ h => h) rfl (RV.tmp rfl) (fun _ h => h) ?_
  exact ⟨rfl, rfl⟩
 ·
  (exfalso; grind)

/-- (*quorumite/verify.Gate).check -/
theorem check_out (gb rb lb nb cn ob co : Nat) (sn so : List Value) (c : Cf) (N : Nat) (asked ref : Int) (ones : List On) (nws ols : List Nat) (T : Hp) (hN : c.n = N) (h1 : ones.length = N) (h2 : nws.length = N) (h3 : ols.length = N) (hgr : 1 ≤ c.grace ∧ c.grace ≤ 100) (has : 0 ≤ asked ∧ asked ≤ 90000) (k : Nat) (x : On) (hx : ones[k]? = some x) (hxb : 0 ≤ x.gen ∧ x.gen ≤ 60000) (hxs : 0 ≤ x.since ∧ x.since ≤ 1099511627776) (kind gen sq ep va me : Int) (hgen : -1000000 ≤ gen ∧ gen ≤ 1000000) (hk2 : kind = 2 → gen - 1 = x.gen) (now : Int) (hc : OkC c) (p p2 : Nat) (hp : nws[k]? = some p) (hp2 : ols[k]? = some p2) (ip : Nat) (top bits rr : Int) (htop : 0 ≤ top ∧ top ≤ 1000000) (hrep : T[ip]? = some (repO (if sgen kind gen = x.gen then p else p2) c.window top bits rr)) (hsq : 1 ≤ sq ∧ sq ≤ 1099511627776) (hep : 0 ≤ ep ∧ ep ≤ 1099511627776) (hnow : 0 ≤ now ∧ now ≤ 1099511627776) (tx : List UInt8) (A : Option Addr) (nn cc : Nat) (hA : RdS T A (bv tx)) (hnn : nn = tx.length) (htx : tx.length ≤ 1000) (tg : K2) (hk2n : ((k : Nat) : Int) ≠ 2)  : FnC Tryz.prog 38 #[.pointer (some ⟨gb, 0, none⟩), .agg #[.int .i64 kind, .int .i64 ((k : Nat) : Int), .int .i64 gen, .int .i64 sq, .int .i64 ep, .int .i64 va, .int .i64 me], .slice A nn cc, .agg #[.int .u64 tg.a, .int .u64 tg.b], .int .i64 now, .func (.func 45) #[] #[]] (gateO gb c rb (some ⟨nb, 0, none⟩) N cn (some ⟨ob, 0, none⟩) N co ref :: ringO rb c.seed lb N c.grace asked :: (lb, row 127 (ones.flatMap On.cs)) :: (nb, row 62 (nws.map pp ++ sn)) :: (ob, row 62 (ols.map pp ++ so)) :: T) (fun v M' => v = .int .i64 (chkC (okK x (sgen kind gen) now c.grace) (decide (bitsOf .or .u64 (xor64 (tagOf (if okK x (sgen kind gen) now c.grace = true then (macKey c.seed (k : Nat) (sgen kind gen)) else ⟨0, 0⟩) tx).a tg.a) (xor64 (tagOf (if okK x (sgen kind gen) now c.grace = true then (macKey c.seed (k : Nat) (sgen kind gen)) else ⟨0, 0⟩) tx).b tg.b) = 0)) (mayP c.window top bits sq) (decide (ep < now) || decide (c.fresh ≤ IntKind.u64.wrap (ep - now))) (decide (me < c.m))) ∧ M' = (gateO gb c rb (some ⟨nb, 0, none⟩) N cn (some ⟨ob, 0, none⟩) N co ref :: ringO rb c.seed lb N c.grace (asked + 1) :: (lb, row 127 (ones.flatMap On.cs)) :: (nb, row 62 (nws.map pp ++ sn)) :: (ob, row 62 (ols.map pp ++ so)) :: T)) := by
 have hkN : k < N := by rw [← h1]; exact (List.getElem?_eq_some_iff.1 hx).1
 have hfr := hc.fresh
 have hwin := hc.window
 refine FnC.intro Tryz.func38 rfl 88 rfl (by simp) (fun z => ?_)
 refine TC.en (E' := [(0, _), (1, _), (2, _), (3, _), (4, _), (5, _)]) ?_
 refine TC.sr ?_
 refine TL.d (Does.box rfl rfl) ?_
 rintro _ _ ⟨b1, rfl, rfl⟩
 refine TL.d (Does.box rfl rfl) ?_
 rintro _ _ ⟨b2, rfl, rfl⟩
 refine TL.v (Val.assign rfl) ?_
 refine TL.nt ?_
 refine TC.en (E' := [(0, _), (2, _), (4, _), (5, _), (7, _), (9, _), (12, _)]) ?_
 refine TC.seq ?_
 refine TC.seq ?_
 refine TC.heap (M' := (gateO gb c rb (some ⟨nb, 0, none⟩) N cn (some ⟨ob, 0, none⟩) N co ref :: ringO rb c.seed lb N c.grace asked :: (lb, row 127 (ones.flatMap On.cs)) :: (nb, row 62 (nws.map pp ++ sn)) :: (ob, row 62 (ols.map pp ++ so)) :: ((b2, .cells #[.int .u64 tg.a, .int .u64 tg.b] 98 (0, 0)) :: (b1, .cells #[.int .i64 kind, .int .i64 ((k : Nat) : Int), .int .i64 gen, .int .i64 sq, .int .i64 ep, .int .i64 va, .int .i64 me] 39 (0, 0)) :: T))) (fun w h => ro_mv (A := [_, _]) (L := [_, _, _, _, _]) w h) ?_
 refine TC.drawLM mixed 18 ?_
 refine TA.tk 0 1 rfl rfl rfl (Val.fieldAddr rfl fl39_1 sz3 rfl) ?_
 refine TA.tk 1 3 rfl rfl rfl (Val.load 6 rfl ag3 rfl rfl) ?_
 refine TA.tk 2 7 rfl rfl rfl (Val.move rfl) ?_
 refine TA.tk 3 15 rfl rfl rfl (Val.nilCheck rfl) ?_
 refine TA.tk 4 31 rfl rfl rfl (Val.fieldAddr rfl fl90_0 sz26 rfl) ?_
 refine TA.tk 5 63 rfl rfl rfl (Val.fieldAddr rfl fl26_0 sz3 rfl) ?_
 refine TA.tk 6 127 rfl rfl rfl (Val.load 0 rfl ag3 rfl rfl) ?_
 refine TA.tk 7 255 rfl rfl rfl (Val.geq rfl rfl) ?_
 refine TA.tk 8 511 rfl rfl rfl (Val.move rfl) ?_
 refine TA.gen (fun g3 hg3 => ?_)
 cases g3 with
 | false =>
  refine TA.tkY 9 1023 rfl rfl rfl rfl rfl (Val.move rfl) ?_
  refine TA.tkY 10 2047 rfl rfl rfl rfl rfl (Val.neqFun rfl rfl (by kernel_rfl)) ?_
  refine TA.tkY 11 4095 rfl rfl rfl rfl rfl (Val.move rfl) ?_
  refine TA.gen (fun g4 hg4 => ?_)
  refine TA.gtk 12 8191 rfl rfl rfl rfl rfl (fun hg => by subst hg; exact (Val.move rfl)) ?_
  refine TA.gtk 13 16383 rfl rfl rfl rfl rfl (fun hg => by subst hg; exact (Val.fieldAddr rfl fl39_1 sz3 rfl)) ?_
  refine TA.gtk 14 32767 rfl rfl rfl rfl rfl (fun hg => by subst hg; exact (Val.load 6 rfl ag3 rfl rfl)) ?_
  cases g4 with
  | false =>
   (exfalso; simp at hg4)
  | true =>
   refine TA.one 15 (by kernel_rfl) ?_
   refine TO.dzY 65535 (some 30) rfl rfl rfl rfl rfl rfl (Does.callV rfl go45 rfl (out_fn _ _)) ?_
   rintro _ _ ⟨rfl, rfl⟩
   refine roK ?_
   refine TA.tkY 16 131071 rfl rfl rfl rfl rfl (Val.pickAnd rfl rfl rfl) ?_
   refine TA.tk 17 262143 rfl rfl rfl (Val.pickOr rfl rfl rfl) ?_
   refine TA.done (by kernel_rfl) ?_
   refine AtX.then ?_
   refine TC.en (E' := [(0, _), (2, _), (4, _), (7, _), (9, _), (12, _), (32, _)]) ?_
   refine TC.condP rfl (fun c1 => ?_) (fun c1 => ?_)
   ·
    (exfalso; grind)
   ·
    refine TC.en (E' := [(0, _), (2, _), (4, _), (7, _), (9, _), (12, _)]) ?_
    refine TC.skip ?_
    refine AtX.then ?_
    refine TC.en (E' := [(0, _), (2, _), (4, _), (7, _), (9, _), (12, _)]) ?_
    refine TC.sr ?_
    refine TL.v (Val.move rfl) ?_
    refine TL.v (Val.loadAgg 6 rfl ag39 sz39 rfl rfl rfl) ?_
    refine TL.v (Val.move rfl) ?_
    refine TL.d (Does.callF go53 rfl (gKey_fn gb rb lb nb cn ob co sn so c N asked ref ones nws ols _ hN h1 h2 h3 hgr ⟨has.1, by omega⟩ k x hx hxb hxs kind gen sq ep va me hgen hk2 now)) ?_
    rintro _ _ ⟨rfl, rfl⟩
    refine TL.v (Val.move rfl) ?_
    refine TL.v (Val.extract rfl rfl) ?_
    refine TL.v (Val.extract rfl rfl) ?_
    refine TL.d (Does.alloc ze57 rfl) ?_
    rintro _ _ ⟨b3_, rfl, rfl⟩
    refine TL.heap (M' := (gateO gb c rb (some ⟨nb, 0, none⟩) N cn (some ⟨ob, 0, none⟩) N co ref :: ringO rb c.seed lb N c.grace (asked + 1) :: (lb, row 127 (ones.flatMap On.cs)) :: (nb, row 62 (nws.map pp ++ sn)) :: (ob, row 62 (ols.map pp ++ so)) :: ((b3_, .cells #[.int .u64 0, .int .u64 0] 57 (0, 0)) :: ((b2, .cells #[.int .u64 tg.a, .int .u64 tg.b] 98 (0, 0)) :: (b1, .cells #[.int .i64 kind, .int .i64 ((k : Nat) : Int), .int .i64 gen, .int .i64 sq, .int .i64 ep, .int .i64 va, .int .i64 me] 39 (0, 0)) :: T)))) (fun w h => ro_mv (A := [_]) (L := [_, _, _, _, _]) w h) ?_
    refine TL.d (Does.store (i := 5) rfl rfl rfl sz57 rfl rfl (by first | exact Nat.le_of_ble_eq_true rfl | decide | omega) rfl rfl) ?_
    rintro _ _ ⟨rfl, rfl⟩
    refine TL.v (Val.assign rfl) ?_
    refine TL.nt ?_
    refine TC.en (E' := [(0, _), (2, _), (4, _), (7, _), (9, _), (12, _), (13, _), (14, _)]) ?_
    refine TC.seq ?_
    refine TC.block ?_
    refine TC.sr ?_
    refine TL.v (Val.move rfl) ?_
    refine TL.v (Val.neqI rfl rfl) ?_
    refine TL.v (Val.assign rfl) ?_
    refine TL.nt ?_
    refine TC.en (E' := [(0, _), (2, _), (4, _), (7, _), (9, _), (12, _), (13, _), (14, _), (40, _)]) ?_
    refine TC.condP rfl (fun c2 => ?_) (fun c2 => ?_)
    ·
     refine TC.en (E' := [(12, _), (14, _)]) ?_
     refine TC.sr ?_
     refine TL.v (Val.move rfl) ?_
     refine TL.v (Val.assign rfl) ?_
     refine TL.nt ?_
     refine TC.en (E' := [(12, _)]) ?_
     refine TC.ret1 (fn := Tryz.f38) (fun _ _ h => h) rfl (RV.tmp rfl) (M' := (gateO gb c rb (some ⟨nb, 0, none⟩) N cn (some ⟨ob, 0, none⟩) N co ref :: ringO rb c.seed lb N c.grace (asked + 1) :: (lb, row 127 (ones.flatMap On.cs)) :: (nb, row 62 (nws.map pp ++ sn)) :: (ob, row 62 (ols.map pp ++ so)) :: T)) (fun w h => (ro_mv (A := [_, _, _, _, _]) (L := [_, _, _]) w h).drop.drop.drop) ?_
     refine ⟨?_, rfl⟩
     refine congrArg (Value.int .i64) ?_
     unfold chkC
     clear hN h1 h2 h3 hgr has hx hxb hxs hgen hk2 hp hp2 htop hrep hsq hep hnow hA hnn htx hkN hfr hwin hc
     generalize bitsOf .or .u64 (xor64 (tagOf (if okK x (sgen kind gen) now c.grace = true then (macKey c.seed (k : Nat) (sgen kind gen)) else ⟨0, 0⟩) tx).a tg.a) (xor64 (tagOf (if okK x (sgen kind gen) now c.grace = true then (macKey c.seed (k : Nat) (sgen kind gen)) else ⟨0, 0⟩) tx).b tg.b) = o2 at *
     generalize okK x (sgen kind gen) now c.grace = o1 at *
     generalize mayP c.window top bits sq = o3 at *
     generalize IntKind.u64.wrap (ep - now) = o4 at *
     try clear hg3 hg4 c1 hk2n
     cases o1 <;> cases o3 <;> grind
    ·
     refine TC.en (E' := [(0, _), (2, _), (4, _), (7, _), (9, _), (12, _), (13, _)]) ?_
     refine TC.seq ?_
     refine TC.drawLM mixed 7 ?_
     refine TA.tk 0 1 rfl rfl rfl (Val.loadAgg 5 rfl ag57 sz57 rfl rfl rfl) ?_
     refine TA.tk 1 3 rfl rfl rfl (Val.move rfl) ?_
     refine TA.tk 3 11 rfl rfl rfl (Val.loadAgg 6 rfl ag98 sz98 rfl rfl rfl) ?_
     refine TA.one 2 (by kernel_rfl) ?_
     refine TO.dz 15 (some 47) rfl rfl rfl rfl (Does.callF go72 rfl (Tag_fn (if okK x (sgen kind gen) now c.grace = true then (macKey c.seed (k : Nat) (sgen kind gen)) else ⟨0, 0⟩) tx _ _ _ _ (by repeat (first | exact hA | apply RdS.cons)) hnn htx)) ?_
     rintro _ _ ⟨rfl, rfl⟩
     refine roK ?_
     refine TA.one 4 (by kernel_rfl) ?_
     refine TO.dz 31 (some 49) rfl rfl rfl rfl (Does.callF go71 rfl (Same_fn (tagOf (if okK x (sgen kind gen) now c.grace = true then (macKey c.seed (k : Nat) (sgen kind gen)) else ⟨0, 0⟩) tx) tg _)) ?_
     rintro _ _ ⟨rfl, rfl⟩
     refine roK ?_
     refine TA.tk 5 63 rfl rfl rfl (Val.not rfl) ?_
     refine TA.tk 6 127 rfl rfl rfl (Val.assign rfl) ?_
     refine TA.done (by kernel_rfl) ?_
     refine AtX.then ?_
     refine TC.en (E' := [(0, _), (4, _), (7, _), (12, _), (44, _)]) ?_
     refine TC.condN rfl (fun c3 => ?_) (fun c3 => ?_)
     ·
      refine TC.en (E' := [(12, _)]) ?_
      refine TC.sr ?_
      refine TL.v (Val.assign rfl) ?_
      refine TL.nt ?_
      refine TC.en (E' := [(12, _)]) ?_
      refine TC.ret1 (fn := Tryz.f38) (fun _ _ h => h) rfl (RV.tmp rfl) (M' := (gateO gb c rb (some ⟨nb, 0, none⟩) N cn (some ⟨ob, 0, none⟩) N co ref :: ringO rb c.seed lb N c.grace (asked + 1) :: (lb, row 127 (ones.flatMap On.cs)) :: (nb, row 62 (nws.map pp ++ sn)) :: (ob, row 62 (ols.map pp ++ so)) :: T)) (fun w h => (ro_mv (A := [_, _, _, _, _]) (L := [_, _, _]) w h).drop.drop.drop) ?_
      refine ⟨?_, rfl⟩
      refine congrArg (Value.int .i64) ?_
      unfold chkC
      clear hN h1 h2 h3 hgr has hx hxb hxs hgen hk2 hp hp2 htop hrep hsq hep hnow hA hnn htx hkN hfr hwin hc
      generalize bitsOf .or .u64 (xor64 (tagOf (if okK x (sgen kind gen) now c.grace = true then (macKey c.seed (k : Nat) (sgen kind gen)) else ⟨0, 0⟩) tx).a tg.a) (xor64 (tagOf (if okK x (sgen kind gen) now c.grace = true then (macKey c.seed (k : Nat) (sgen kind gen)) else ⟨0, 0⟩) tx).b tg.b) = o2 at *
      generalize okK x (sgen kind gen) now c.grace = o1 at *
      generalize mayP c.window top bits sq = o3 at *
      generalize IntKind.u64.wrap (ep - now) = o4 at *
      try clear hg3 hg4 c1 hk2n
      cases o1 <;> cases o3 <;> grind
     ·
      refine TC.en (E' := [(0, _), (4, _), (7, _), (12, _)]) ?_
      refine TC.seq ?_
      refine TC.drawLM mixed 8 ?_
      refine TA.tk 0 1 rfl rfl rfl (Val.move rfl) ?_
      refine TA.tk 1 3 rfl rfl rfl (Val.loadAgg 7 rfl ag39 sz39 rfl rfl rfl) ?_
      refine TA.tk 3 11 rfl rfl rfl (Val.fieldAddr rfl fl39_3 sz2 rfl) ?_
      refine TA.tk 4 27 rfl rfl rfl (Val.load 7 rfl ag2 rfl rfl) ?_
      refine TA.one 2 (by kernel_rfl) ?_
      refine TO.dz 31 (some 54) rfl rfl rfl rfl (Does.callF go54 rfl (gSel_fn gb rb lb nb cn ob co sn so c N (asked + 1) ref ones nws ols _ hN h1 h2 h3 hgr ⟨by omega, by omega⟩ k x hx hxb hxs kind gen sq ep va me hgen hk2 p p2 hp hp2)) ?_
      rintro _ _ ⟨rfl, rfl⟩
      refine roK ?_
      refine TA.one 5 (by kernel_rfl) ?_
      refine TO.dz 63 (some 57) rfl rfl rfl rfl (Does.callF go55 rfl (pMay_fn (if sgen kind gen = x.gen then p else p2) (ip + 8) c.window top bits rr _ hrep hwin ⟨by omega, by omega⟩ sq hsq)) ?_
      rintro _ _ ⟨rfl, rfl⟩
      refine roK ?_
      refine TA.tk 6 127 rfl rfl rfl (Val.not rfl) ?_
      refine TA.tk 7 255 rfl rfl rfl (Val.assign rfl) ?_
      refine TA.done (by kernel_rfl) ?_
      refine AtX.then ?_
      refine TC.en (E' := [(0, _), (4, _), (7, _), (12, _), (51, _)]) ?_
      refine TC.condB rfl (fun c4 => ?_) (fun c4 => ?_)
      ·
       refine TC.en (E' := [(12, _)]) ?_
       refine TC.sr ?_
       refine TL.v (Val.assign rfl) ?_
       refine TL.nt ?_
       refine TC.en (E' := [(12, _)]) ?_
       refine TC.ret1 (fn := Tryz.f38) (fun _ _ h => h) rfl (RV.tmp rfl) (M' := (gateO gb c rb (some ⟨nb, 0, none⟩) N cn (some ⟨ob, 0, none⟩) N co ref :: ringO rb c.seed lb N c.grace (asked + 1) :: (lb, row 127 (ones.flatMap On.cs)) :: (nb, row 62 (nws.map pp ++ sn)) :: (ob, row 62 (ols.map pp ++ so)) :: T)) (fun w h => (ro_mv (A := [_, _, _, _, _]) (L := [_, _, _]) w h).drop.drop.drop) ?_
       refine ⟨?_, rfl⟩
       refine congrArg (Value.int .i64) ?_
       unfold chkC
       clear hN h1 h2 h3 hgr has hx hxb hxs hgen hk2 hp hp2 htop hrep hsq hep hnow hA hnn htx hkN hfr hwin hc
       generalize bitsOf .or .u64 (xor64 (tagOf (if okK x (sgen kind gen) now c.grace = true then (macKey c.seed (k : Nat) (sgen kind gen)) else ⟨0, 0⟩) tx).a tg.a) (xor64 (tagOf (if okK x (sgen kind gen) now c.grace = true then (macKey c.seed (k : Nat) (sgen kind gen)) else ⟨0, 0⟩) tx).b tg.b) = o2 at *
       generalize okK x (sgen kind gen) now c.grace = o1 at *
       generalize mayP c.window top bits sq = o3 at *
       generalize IntKind.u64.wrap (ep - now) = o4 at *
       try clear hg3 hg4 c1 hk2n
       cases o1 <;> cases o3 <;> grind
      ·
       refine TC.en (E' := [(0, _), (4, _), (7, _), (12, _)]) ?_
       refine TC.seq ?_
       refine TC.drawLM mixed 20 ?_
       refine TA.tk 0 1 rfl rfl rfl (Val.fieldAddr rfl fl39_4 sz2 rfl) ?_
       refine TA.tk 1 3 rfl rfl rfl (Val.load 7 rfl ag2 rfl rfl) ?_
       refine TA.tk 2 7 rfl rfl rfl (Val.move rfl) ?_
       refine TA.tk 3 15 rfl rfl rfl (Val.lss rfl rfl) ?_
       refine TA.tk 4 31 rfl rfl rfl (Val.move rfl) ?_
       refine TA.gen (fun g10 hg10 => ?_)
       refine TA.gtk 5 63 rfl rfl rfl rfl rfl (fun hg => by subst hg; exact (Val.fieldAddr rfl fl39_4 sz2 rfl)) ?_
       refine TA.gtk 6 127 rfl rfl rfl rfl rfl (fun hg => by subst hg; exact (Val.load 7 rfl ag2 rfl rfl)) ?_
       refine TA.gtk 7 255 rfl rfl rfl rfl rfl (fun hg => by subst hg; exact (Val.convI rfl iu2 in24 (r := ep) (w_u64 (by omega) (by omega)))) ?_
       refine TA.gtk 8 511 rfl rfl rfl rfl rfl (fun hg => by subst hg; exact (Val.move rfl)) ?_
       refine TA.gtk 9 1023 rfl rfl rfl rfl rfl (fun hg => by subst hg; exact (Val.convI rfl iu2 in24 (r := now) (w_u64 (by omega) (by omega)))) ?_
       refine TA.gtk 10 2047 rfl rfl rfl rfl rfl (fun hg => by subst hg; exact (Val.sub rfl rfl (r := IntKind.u64.wrap (ep - now)) rfl)) ?_
       refine TA.gtk 11 4095 rfl rfl rfl rfl rfl (fun hg => by subst hg; exact (Val.move rfl)) ?_
       refine TA.gtk 12 8191 rfl rfl rfl rfl rfl (fun hg => by subst hg; exact (Val.nilCheck rfl)) ?_
       refine TA.gtk 13 16383 rfl rfl rfl rfl rfl (fun hg => by subst hg; exact (Val.fieldAddr rfl fl90_0 sz26 rfl)) ?_
       refine TA.gtk 14 32767 rfl rfl rfl rfl rfl (fun hg => by subst hg; exact (Val.fieldAddr rfl fl26_4 sz3 rfl)) ?_
       refine TA.gtk 15 65535 rfl rfl rfl rfl rfl (fun hg => by subst hg; exact (Val.load 0 rfl ag3 rfl rfl)) ?_
       refine TA.gtk 16 131071 rfl rfl rfl rfl rfl (fun hg => by subst hg; exact (Val.convI rfl iu3 in24 (r := c.fresh) (w_u64 (by omega) (by omega)))) ?_
       refine TA.gtk 17 262143 rfl rfl rfl rfl rfl (fun hg => by subst hg; exact (Val.geq rfl rfl)) ?_
       refine TA.tk 18 524287 rfl rfl rfl (Val.pickOr rfl rfl rfl) ?_
       refine TA.tk 19 1048575 rfl rfl rfl (Val.assign rfl) ?_
       refine TA.done (by kernel_rfl) ?_
       refine AtX.then ?_
       refine TC.en (E' := [(0, _), (7, _), (12, _), (59, _)]) ?_
       refine TC.cond rfl (fun c5 => ?_) (fun c5 => ?_)
       ·
        refine TC.en (E' := [(12, _)]) ?_
        refine TC.sr ?_
        refine TL.v (Val.assign rfl) ?_
        refine TL.nt ?_
        refine TC.en (E' := [(12, _)]) ?_
        refine TC.ret1 (fn := Tryz.f38) (fun _ _ h => h) rfl (RV.tmp rfl) (M' := (gateO gb c rb (some ⟨nb, 0, none⟩) N cn (some ⟨ob, 0, none⟩) N co ref :: ringO rb c.seed lb N c.grace (asked + 1) :: (lb, row 127 (ones.flatMap On.cs)) :: (nb, row 62 (nws.map pp ++ sn)) :: (ob, row 62 (ols.map pp ++ so)) :: T)) (fun w h => (ro_mv (A := [_, _, _, _, _]) (L := [_, _, _]) w h).drop.drop.drop) ?_
        refine ⟨?_, rfl⟩
        refine congrArg (Value.int .i64) ?_
        unfold chkC
        clear hN h1 h2 h3 hgr has hx hxb hxs hgen hk2 hp hp2 htop hrep hsq hep hnow hA hnn htx hkN hfr hwin hc
        generalize bitsOf .or .u64 (xor64 (tagOf (if okK x (sgen kind gen) now c.grace = true then (macKey c.seed (k : Nat) (sgen kind gen)) else ⟨0, 0⟩) tx).a tg.a) (xor64 (tagOf (if okK x (sgen kind gen) now c.grace = true then (macKey c.seed (k : Nat) (sgen kind gen)) else ⟨0, 0⟩) tx).b tg.b) = o2 at *
        generalize okK x (sgen kind gen) now c.grace = o1 at *
        generalize mayP c.window top bits sq = o3 at *
        generalize IntKind.u64.wrap (ep - now) = o4 at *
        try clear hg3 hg4 c1 hk2n
        cases o1 <;> cases o3 <;> grind
       ·
        refine TC.en (E' := [(0, _), (7, _), (12, _)]) ?_
        refine TC.seq ?_
        refine TC.drawLM mixed 9 ?_
        refine TA.tk 0 1 rfl rfl rfl (Val.fieldAddr rfl fl39_6 sz3 rfl) ?_
        refine TA.tk 1 3 rfl rfl rfl (Val.load 7 rfl ag3 rfl rfl) ?_
        refine TA.tk 2 7 rfl rfl rfl (Val.move rfl) ?_
        refine TA.tk 3 15 rfl rfl rfl (Val.nilCheck rfl) ?_
        refine TA.tk 4 31 rfl rfl rfl (Val.fieldAddr rfl fl90_0 sz26 rfl) ?_
        refine TA.tk 5 63 rfl rfl rfl (Val.fieldAddr rfl fl26_2 sz3 rfl) ?_
        refine TA.tk 6 127 rfl rfl rfl (Val.load 0 rfl ag3 rfl rfl) ?_
        refine TA.tk 7 255 rfl rfl rfl (Val.geq rfl rfl) ?_
        refine TA.tk 8 511 rfl rfl rfl (Val.assign rfl) ?_
        refine TA.done (by kernel_rfl) ?_
        refine AtX.then ?_
        refine TC.en (E' := [(12, _), (79, _)]) ?_
        refine TC.condP rfl (fun c6 => ?_) (fun c6 => ?_)
        ·
         refine TC.en (E' := [(12, _)]) ?_
         refine TC.sr ?_
         refine TL.v (Val.assign rfl) ?_
         refine TL.nt ?_
         refine TC.en (E' := [(12, _)]) ?_
         refine TC.ret1 (fn := Tryz.f38) (fun _ _ h => h) rfl (RV.tmp rfl) (M' := (gateO gb c rb (some ⟨nb, 0, none⟩) N cn (some ⟨ob, 0, none⟩) N co ref :: ringO rb c.seed lb N c.grace (asked + 1) :: (lb, row 127 (ones.flatMap On.cs)) :: (nb, row 62 (nws.map pp ++ sn)) :: (ob, row 62 (ols.map pp ++ so)) :: T)) (fun w h => (ro_mv (A := [_, _, _, _, _]) (L := [_, _, _]) w h).drop.drop.drop) ?_
         refine ⟨?_, rfl⟩
         refine congrArg (Value.int .i64) ?_
         unfold chkC
         clear hN h1 h2 h3 hgr has hx hxb hxs hgen hk2 hp hp2 htop hrep hsq hep hnow hA hnn htx hkN hfr hwin hc
         generalize bitsOf .or .u64 (xor64 (tagOf (if okK x (sgen kind gen) now c.grace = true then (macKey c.seed (k : Nat) (sgen kind gen)) else ⟨0, 0⟩) tx).a tg.a) (xor64 (tagOf (if okK x (sgen kind gen) now c.grace = true then (macKey c.seed (k : Nat) (sgen kind gen)) else ⟨0, 0⟩) tx).b tg.b) = o2 at *
         generalize okK x (sgen kind gen) now c.grace = o1 at *
         generalize mayP c.window top bits sq = o3 at *
         generalize IntKind.u64.wrap (ep - now) = o4 at *
         try clear hg3 hg4 c1 hk2n
         cases o1 <;> cases o3 <;> grind
        ·
         refine TC.en (E' := [(12, _)]) ?_
         refine TC.skip ?_
         refine AtX.blk ?_
         refine AtX.then ?_
         refine TC.en (E' := [(12, _)]) ?_
         refine TC.sr ?_
         refine TL.v (Val.assign rfl) ?_
         refine TL.nt ?_
         refine TC.en (E' := [(12, _)]) ?_
         refine TC.ret1 (fn := Tryz.f38) (fun _ _ h => h) rfl (RV.tmp rfl) (M' := (gateO gb c rb (some ⟨nb, 0, none⟩) N cn (some ⟨ob, 0, none⟩) N co ref :: ringO rb c.seed lb N c.grace (asked + 1) :: (lb, row 127 (ones.flatMap On.cs)) :: (nb, row 62 (nws.map pp ++ sn)) :: (ob, row 62 (ols.map pp ++ so)) :: T)) (fun w h => (ro_mv (A := [_, _, _, _, _]) (L := [_, _, _]) w h).drop.drop.drop) ?_
         refine ⟨?_, rfl⟩
         refine congrArg (Value.int .i64) ?_
         unfold chkC
         clear hN h1 h2 h3 hgr has hx hxb hxs hgen hk2 hp hp2 htop hrep hsq hep hnow hA hnn htx hkN hfr hwin hc
         generalize bitsOf .or .u64 (xor64 (tagOf (if okK x (sgen kind gen) now c.grace = true then (macKey c.seed (k : Nat) (sgen kind gen)) else ⟨0, 0⟩) tx).a tg.a) (xor64 (tagOf (if okK x (sgen kind gen) now c.grace = true then (macKey c.seed (k : Nat) (sgen kind gen)) else ⟨0, 0⟩) tx).b tg.b) = o2 at *
         generalize okK x (sgen kind gen) now c.grace = o1 at *
         generalize mayP c.window top bits sq = o3 at *
         generalize IntKind.u64.wrap (ep - now) = o4 at *
         try clear hg3 hg4 c1 hk2n
         cases o1 <;> cases o3 <;> grind
 | true =>
  (exfalso; grind)

/-- (*quorumite/verify.Gate).check -/
theorem check_two (gb rb lb nb cn ob co : Nat) (sn so : List Value) (c : Cf) (N : Nat) (asked ref : Int) (ones : List On) (nws ols : List Nat) (T : Hp) (hN : c.n = N) (h1 : ones.length = N) (h2 : nws.length = N) (h3 : ols.length = N) (hgr : 1 ≤ c.grace ∧ c.grace ≤ 100) (has : 0 ≤ asked ∧ asked ≤ 90000) (k : Nat) (x : On) (hx : ones[k]? = some x) (hxb : 0 ≤ x.gen ∧ x.gen ≤ 60000) (hxs : 0 ≤ x.since ∧ x.since ≤ 1099511627776) (kind gen sq ep va me : Int) (hgen : -1000000 ≤ gen ∧ gen ≤ 1000000) (hk2 : kind = 2 → gen - 1 = x.gen) (now : Int) (hc : OkC c) (p p2 : Nat) (hp : nws[k]? = some p) (hp2 : ols[k]? = some p2) (ip : Nat) (top bits rr : Int) (htop : 0 ≤ top ∧ top ≤ 1000000) (hrep : T[ip]? = some (repO (if sgen kind gen = x.gen then p else p2) c.window top bits rr)) (hsq : 1 ≤ sq ∧ sq ≤ 1099511627776) (hep : 0 ≤ ep ∧ ep ≤ 1099511627776) (hnow : 0 ≤ now ∧ now ≤ 1099511627776) (tx : List UInt8) (A : Option Addr) (nn cc : Nat) (hA : RdS T A (bv tx)) (hnn : nn = tx.length) (htx : tx.length ≤ 1000) (tg : K2) (hk2n : ((k : Nat) : Int) = 2)  : FnC Tryz.prog 38 #[.pointer (some ⟨gb, 0, none⟩), .agg #[.int .i64 kind, .int .i64 ((k : Nat) : Int), .int .i64 gen, .int .i64 sq, .int .i64 ep, .int .i64 va, .int .i64 me], .slice A nn cc, .agg #[.int .u64 tg.a, .int .u64 tg.b], .int .i64 now, .func (.func 45) #[] #[]] (gateO gb c rb (some ⟨nb, 0, none⟩) N cn (some ⟨ob, 0, none⟩) N co ref :: ringO rb c.seed lb N c.grace asked :: (lb, row 127 (ones.flatMap On.cs)) :: (nb, row 62 (nws.map pp ++ sn)) :: (ob, row 62 (ols.map pp ++ so)) :: T) (fun v M' => v = .int .i64 3 ∧ (gateO gb c rb (some ⟨nb, 0, none⟩) N cn (some ⟨ob, 0, none⟩) N co ref :: ringO rb c.seed lb N c.grace asked :: (lb, row 127 (ones.flatMap On.cs)) :: (nb, row 62 (nws.map pp ++ sn)) :: (ob, row 62 (ols.map pp ++ so)) :: T) = M') := by
 have hkN : k < N := by rw [← h1]; exact (List.getElem?_eq_some_iff.1 hx).1
 have hfr := hc.fresh
 have hwin := hc.window
 refine FnC.intro Tryz.func38 rfl 88 rfl (by simp) (fun z => ?_)
 refine TC.en (E' := [(0, _), (1, _), (2, _), (3, _), (4, _), (5, _)]) ?_
 refine TC.sr ?_
 refine TL.d (Does.box rfl rfl) ?_
 rintro _ _ ⟨b1, rfl, rfl⟩
 refine TL.d (Does.box rfl rfl) ?_
 rintro _ _ ⟨b2, rfl, rfl⟩
 refine TL.v (Val.assign rfl) ?_
 refine TL.nt ?_
 refine TC.en (E' := [(0, _), (2, _), (4, _), (5, _), (7, _), (9, _), (12, _)]) ?_
 refine TC.seq ?_
 refine TC.seq ?_
 refine TC.heap (M' := (gateO gb c rb (some ⟨nb, 0, none⟩) N cn (some ⟨ob, 0, none⟩) N co ref :: ringO rb c.seed lb N c.grace asked :: (lb, row 127 (ones.flatMap On.cs)) :: (nb, row 62 (nws.map pp ++ sn)) :: (ob, row 62 (ols.map pp ++ so)) :: ((b2, .cells #[.int .u64 tg.a, .int .u64 tg.b] 98 (0, 0)) :: (b1, .cells #[.int .i64 kind, .int .i64 ((k : Nat) : Int), .int .i64 gen, .int .i64 sq, .int .i64 ep, .int .i64 va, .int .i64 me] 39 (0, 0)) :: T))) (fun w h => ro_mv (A := [_, _]) (L := [_, _, _, _, _]) w h) ?_
 refine TC.drawLM mixed 18 ?_
 refine TA.tk 0 1 rfl rfl rfl (Val.fieldAddr rfl fl39_1 sz3 rfl) ?_
 refine TA.tk 1 3 rfl rfl rfl (Val.load 6 rfl ag3 rfl rfl) ?_
 refine TA.tk 2 7 rfl rfl rfl (Val.move rfl) ?_
 refine TA.tk 3 15 rfl rfl rfl (Val.nilCheck rfl) ?_
 refine TA.tk 4 31 rfl rfl rfl (Val.fieldAddr rfl fl90_0 sz26 rfl) ?_
 refine TA.tk 5 63 rfl rfl rfl (Val.fieldAddr rfl fl26_0 sz3 rfl) ?_
 refine TA.tk 6 127 rfl rfl rfl (Val.load 0 rfl ag3 rfl rfl) ?_
 refine TA.tk 7 255 rfl rfl rfl (Val.geq rfl rfl) ?_
 refine TA.tk 8 511 rfl rfl rfl (Val.move rfl) ?_
 refine TA.gen (fun g3 hg3 => ?_)
 cases g3 with
 | false =>
  refine TA.tkY 9 1023 rfl rfl rfl rfl rfl (Val.move rfl) ?_
  refine TA.tkY 10 2047 rfl rfl rfl rfl rfl (Val.neqFun rfl rfl (by kernel_rfl)) ?_
  refine TA.tkY 11 4095 rfl rfl rfl rfl rfl (Val.move rfl) ?_
  refine TA.gen (fun g4 hg4 => ?_)
  refine TA.gtk 12 8191 rfl rfl rfl rfl rfl (fun hg => by subst hg; exact (Val.move rfl)) ?_
  refine TA.gtk 13 16383 rfl rfl rfl rfl rfl (fun hg => by subst hg; exact (Val.fieldAddr rfl fl39_1 sz3 rfl)) ?_
  refine TA.gtk 14 32767 rfl rfl rfl rfl rfl (fun hg => by subst hg; exact (Val.load 6 rfl ag3 rfl rfl)) ?_
  cases g4 with
  | false =>
   (exfalso; simp at hg4)
  | true =>
   refine TA.one 15 (by kernel_rfl) ?_
   refine TO.dzY 65535 (some 30) rfl rfl rfl rfl rfl rfl (Does.callV rfl go45 rfl (out_fn _ _)) ?_
   rintro _ _ ⟨rfl, rfl⟩
   refine roK ?_
   refine TA.tkY 16 131071 rfl rfl rfl rfl rfl (Val.pickAnd rfl rfl rfl) ?_
   refine TA.tk 17 262143 rfl rfl rfl (Val.pickOr rfl rfl rfl) ?_
   refine TA.done (by kernel_rfl) ?_
   refine AtX.then ?_
   refine TC.en (E' := [(0, _), (2, _), (4, _), (7, _), (9, _), (12, _), (32, _)]) ?_
   refine TC.condP rfl (fun c1 => ?_) (fun c1 => ?_)
   ·
    refine TC.en (E' := [(0, _), (2, _), (4, _), (7, _), (9, _), (12, _)]) ?_
    refine TC.sr ?_
    refine TL.v (Val.assign rfl) ?_
    refine TL.nt ?_
    refine TC.en (E' := [(0, _), (2, _), (4, _), (7, _), (9, _), (12, _)]) ?_
    refine TC.ret1 (fn := Tryz.f38) (fun _ _ h => h) rfl (RV.tmp rfl) (M' := (gateO gb c rb (some ⟨nb, 0, none⟩) N cn (some ⟨ob, 0, none⟩) N co ref :: ringO rb c.seed lb N c.grace asked :: (lb, row 127 (ones.flatMap On.cs)) :: (nb, row 62 (nws.map pp ++ sn)) :: (ob, row 62 (ols.map pp ++ so)) :: T)) (fun w h => (ro_mv (A := [_, _, _, _, _]) (L := [_, _]) w h).drop.drop) ?_
    exact ⟨rfl, rfl⟩
   ·
    (exfalso; grind)
 | true =>
  (exfalso; grind)

end Go.Proofs.YtphoapajlcaoeaaGreat
/- walks -/
set_option linter.unusedVariables false
set_option linter.unusedSimpArgs false
set_option maxRecDepth 100000
set_option maxHeartbeats 4000000
namespace Go.Proofs.YtphoapajlcaoeaaGreat
open Go Go.X
/-- quorumite/wire.Split -/
theorem Split_no (A : Option Addr) (n c : Nat) (M : Hp) (hn : n ≠ 48) : FnC Tryz.prog 37 #[.slice A n c] M (fun v M' => v = .tuple #[.agg #[.int .i64 0, .int .i64 0, .int .i64 0, .int .i64 0, .int .i64 0, .int .i64 0, .int .i64 0], .slice none 0 0, .agg #[.int .u64 0, .int .u64 0], .int .i64 2] ∧ M = M') := by
 refine FnC.intro Tryz.func37 rfl 37 rfl (by simp) (fun z => ?_)
 refine TC.en (E' := [(0, _)]) ?_
 refine TC.sr ?_
 refine TL.d (Does.alloc ze39 rfl) ?_
 rintro _ _ ⟨b1, rfl, rfl⟩
 refine TL.v (Val.assign rfl) ?_
 refine TL.d (Does.alloc ze98 rfl) ?_
 rintro _ _ ⟨b2, rfl, rfl⟩
 refine TL.v (Val.assign rfl) ?_
 refine TL.nt ?_
 refine TC.seq ?_
 refine TC.sr ?_
 refine TL.v (Val.move rfl) ?_
 refine TL.v (Val.lenSl rfl rfl sl34) ?_
 refine TL.v (Val.neqI rfl rfl) ?_
 refine TL.nt ?_
 refine TC.en (E' := [(0, _), (2, _), (3, _), (4, _), (5, _), (12, _)]) ?_
 refine TC.condP rfl (fun c1 => ?_) (fun c1 => ?_)
 ·
  refine TC.en (E' := [(0, _), (2, _), (3, _), (4, _), (5, _)]) ?_
  refine TC.sr ?_
  refine TL.v (Val.buildS pl39 ze39 rfl rfl) ?_
  refine TL.v (Val.buildA ar98 sz24 ze98 rfl rfl) ?_
  refine TL.d (Does.store (i := 1) rfl rfl rfl sz39 rfl rfl (by first | exact Nat.le_of_ble_eq_true rfl | decide | omega) rfl rfl) ?_
  rintro _ _ ⟨rfl, rfl⟩
  refine TL.v (Val.assign rfl) ?_
  refine TL.d (Does.store (i := 0) rfl rfl rfl sz98 rfl rfl (by first | exact Nat.le_of_ble_eq_true rfl | decide | omega) rfl rfl) ?_
  rintro _ _ ⟨rfl, rfl⟩
  refine TL.v (Val.assign rfl) ?_
  refine TL.nt ?_
  refine TC.en (E' := [(0, _), (2, _), (3, _), (4, _), (5, _)]) ?_
  refine TC.ret4 (fn := Tryz.f37) (fun _ _ h => h) rfl (RV.agg (i := 1) rfl ag39 sz39 rfl rfl rfl) (RV.tmp rfl) (RV.agg (i := 0) rfl ag98 sz98 rfl rfl rfl) (RV.tmp rfl) (M' := M) (by repeat (first | exact ro_refl | exact ro_pre | refine ro_tail ?_ | refine ro_app ?_)) ?_
  exact ⟨rfl, rfl⟩
 ·
  (exfalso; omega)

/-- (*quorumite/verify.Gate).Check -/
theorem Check_no (gb rb lb nb cn ob co : Nat) (sn so : List Value) (c : Cf) (N : Nat) (asked ref : Int) (ones : List On) (nws ols : List Nat) (T : Hp) (A : Option Addr) (n cc : Nat) (hn : n ≠ 48) (now : Int) (href : 0 ≤ ref ∧ ref ≤ 100000) : FnC Tryz.prog 10 #[.pointer (some ⟨gb, 0, none⟩), .slice A n cc, .int .i64 now, .nilFunc] (gateO gb c rb (some ⟨nb, 0, none⟩) N cn (some ⟨ob, 0, none⟩) N co ref :: ringO rb c.seed lb N c.grace asked :: (lb, row 127 (ones.flatMap On.cs)) :: (nb, row 62 (nws.map pp ++ sn)) :: (ob, row 62 (ols.map pp ++ so)) :: T) (fun v M' => v = .tuple #[.agg #[.int .i64 0, .int .i64 0, .int .i64 0, .int .i64 0, .int .i64 0, .int .i64 0, .int .i64 0], .int .i64 2] ∧ M' = (gateO gb c rb (some ⟨nb, 0, none⟩) N cn (some ⟨ob, 0, none⟩) N co (ref + 1) :: ringO rb c.seed lb N c.grace asked :: (lb, row 127 (ones.flatMap On.cs)) :: (nb, row 62 (nws.map pp ++ sn)) :: (ob, row 62 (ols.map pp ++ so)) :: T)) := by
 refine FnC.intro Tryz.func10 rfl 42 rfl (by simp) (fun z => ?_)
 refine TC.en (E' := [(0, _), (1, _), (2, _), (3, _)]) ?_
 refine TC.sr ?_
 refine TL.d (Does.alloc ze39 rfl) ?_
 rintro _ _ ⟨b1, rfl, rfl⟩
 refine TL.v (Val.assign rfl) ?_
 refine TL.nt ?_
 refine TC.seq ?_
 refine TC.sr ?_
 refine TL.v (Val.move rfl) ?_
 refine TL.v (Val.eqlNil rfl rfl pt28) ?_
 refine TL.nt ?_
 refine TC.en (E' := [(0, _), (1, _), (2, _), (3, _), (8, _), (9, _), (15, _)]) ?_
 refine TC.cond rfl (fun c1 => ?_) (fun c1 => ?_)
 ·
  (exfalso; simp at c1)
 ·
  refine TC.en (E' := [(0, _), (1, _), (2, _), (3, _), (8, _), (9, _)]) ?_
  refine TC.skip ?_
  refine AtX.then ?_
  refine TC.en (E' := [(0, _), (1, _), (2, _), (3, _), (8, _), (9, _)]) ?_
  refine TC.sr ?_
  refine TL.v (Val.move rfl) ?_
  refine TL.d (Does.callF go37 rfl (Split_no A n cc _ hn)) ?_
  rintro _ _ ⟨rfl, rfl⟩
  refine TL.v (Val.move rfl) ?_
  refine TL.v (Val.extract rfl rfl) ?_
  refine TL.v (Val.extract rfl rfl) ?_
  refine TL.v (Val.extract rfl rfl) ?_
  refine TL.v (Val.extract rfl rfl) ?_
  refine TL.d (Does.alloc ze39 rfl) ?_
  rintro _ _ ⟨bM, rfl, rfl⟩
  refine TL.d (Does.alloc ze98 rfl) ?_
  rintro _ _ ⟨bT_, rfl, rfl⟩
  refine TL.d (Does.store (i := 1) rfl rfl rfl sz39 rfl rfl (by first | exact Nat.le_of_ble_eq_true rfl | decide | omega) rfl rfl) ?_
  rintro _ _ ⟨rfl, rfl⟩
  refine TL.v (Val.assign rfl) ?_
  refine TL.d (Does.store (i := 0) rfl rfl rfl sz98 rfl rfl (by first | exact Nat.le_of_ble_eq_true rfl | decide | omega) rfl rfl) ?_
  rintro _ _ ⟨rfl, rfl⟩
  refine TL.v (Val.assign rfl) ?_
  refine TL.nt ?_
  refine TC.en (E' := [(0, _), (2, _), (3, _), (8, _), (9, _), (10, _), (11, _), (12, _), (13, _)]) ?_
  refine TC.seq ?_
  refine TC.seq ?_
  refine TC.heap (M' := (gateO gb c rb (some ⟨nb, 0, none⟩) N cn (some ⟨ob, 0, none⟩) N co ref :: ringO rb c.seed lb N c.grace asked :: (lb, row 127 (ones.flatMap On.cs)) :: (nb, row 62 (nws.map pp ++ sn)) :: (ob, row 62 (ols.map pp ++ so)) :: ((bT_, .cells #[.int .u64 0, .int .u64 0] 98 (0, 0)) :: (bM, .cells #[.int .i64 0, .int .i64 0, .int .i64 0, .int .i64 0, .int .i64 0, .int .i64 0, .int .i64 0] 39 (0, 0)) :: (b1, .cells #[.int .i64 0, .int .i64 0, .int .i64 0, .int .i64 0, .int .i64 0, .int .i64 0, .int .i64 0] 39 (0, 0)) :: T))) (fun w h => ro_mv (A := [_, _, _]) (L := [_, _, _, _, _]) w h) ?_
  refine TC.region ?_
  refine TL.v (Val.move rfl) ?_
  refine TL.v (Val.eqlI rfl rfl) ?_
  refine TL.nt ?_
  refine TC.en (E' := [(0, _), (2, _), (3, _), (8, _), (9, _), (10, _), (11, _), (12, _), (13, _), (25, _)]) ?_
  refine TC.condP rfl (fun c2 => ?_) (fun c2 => ?_)
  ·
   (exfalso; simp at c2)
  ·
   refine TC.en (E' := [(0, _), (8, _), (9, _), (10, _), (13, _)]) ?_
   refine TC.skip ?_
   refine AtX.then ?_
   refine TC.en (E' := [(0, _), (8, _), (9, _), (10, _), (13, _)]) ?_
   refine TC.seq ?_
   refine TC.sr ?_
   refine TL.v (Val.move rfl) ?_
   refine TL.v (Val.neqI rfl rfl) ?_
   refine TL.nt ?_
   refine TC.en (E' := [(0, _), (8, _), (9, _), (10, _), (13, _), (34, _)]) ?_
   refine TC.condP rfl (fun c3 => ?_) (fun c3 => ?_)
   ·
    refine TC.en (E' := [(0, _), (8, _), (9, _), (10, _), (13, _)]) ?_
    refine TC.sr ?_
    refine TL.v (Val.move rfl) ?_
    refine TL.v (Val.nilCheck rfl) ?_
    refine TL.v (Val.fieldAddr rfl fl90_4 sz88 rfl) ?_
    refine TL.d (Does.callF go39 rfl (aAdd_fn gb 29 0 _ _ ref 1 (ref + 1) _ rfl rfl (w_i64 (by omega) (by omega)))) ?_
    rintro _ _ ⟨rfl, rfl⟩
    refine TL.nt ?_
    refine TC.en (E' := [(8, _), (9, _), (10, _), (13, _)]) ?_
    refine TC.sr ?_
    refine TL.v (Val.buildS pl39 ze39 rfl rfl) ?_
    refine TL.v (Val.move rfl) ?_
    refine TL.d (Does.store (i := 7) rfl rfl rfl sz39 rfl rfl (by first | exact Nat.le_of_ble_eq_true rfl | decide | omega) rfl rfl) ?_
    rintro _ _ ⟨rfl, rfl⟩
    refine TL.v (Val.assign rfl) ?_
    refine TL.nt ?_
    refine TC.en (E' := [(8, _), (9, _), (10, _)]) ?_
    refine TC.ret2 (fn := Tryz.f10) (fun _ _ h => h) rfl (RV.agg (i := 7) rfl ag39 sz39 rfl rfl rfl) (RV.tmp rfl) (M' := (gateO gb c rb (some ⟨nb, 0, none⟩) N cn (some ⟨ob, 0, none⟩) N co (ref + 1) :: ringO rb c.seed lb N c.grace asked :: (lb, row 127 (ones.flatMap On.cs)) :: (nb, row 62 (nws.map pp ++ sn)) :: (ob, row 62 (ols.map pp ++ so)) :: T)) (fun w h => (ro_mv (A := [_, _, _, _, _]) (L := [_, _, _]) w h).drop.drop.drop) ?_
    exact ⟨rfl, rfl⟩
   ·
    (exfalso; simp at c3)

end Go.Proofs.YtphoapajlcaoeaaGreat
/- walks -/
set_option linter.unusedVariables false
set_option linter.unusedSimpArgs false
set_option maxRecDepth 100000
set_option maxHeartbeats 4000000
namespace Go.Proofs.YtphoapajlcaoeaaGreat
open Go Go.X
/-- (*quorumite/verify.Gate).Check -/
theorem Check_out (gb rb lb nb cn ob co : Nat) (sn so : List Value) (c : Cf) (N : Nat) (asked ref : Int) (ones : List On) (nws ols : List Nat) (T : Hp) (hN : c.n = N) (h1 : ones.length = N) (h2 : nws.length = N) (h3 : ols.length = N) (hgr : 1 ≤ c.grace ∧ c.grace ≤ 100) (has : 0 ≤ asked ∧ asked ≤ 90000) (k : Nat) (x : On) (hx : ones[k]? = some x) (hxb : 0 ≤ x.gen ∧ x.gen ≤ 60000) (hxs : 0 ≤ x.since ∧ x.since ≤ 1099511627776) (kind gen sq ep va me : Int) (hgen : -1000000 ≤ gen ∧ gen ≤ 1000000) (hk2 : kind = 2 → gen - 1 = x.gen) (now : Int) (hc : OkC c) (p p2 : Nat) (hp : nws[k]? = some p) (hp2 : ols[k]? = some p2) (ip : Nat) (top bits rr : Int) (htop : 0 ≤ top ∧ top ≤ 1000000) (hrep : T[ip]? = some (repO (if sgen kind gen = x.gen then p else p2) c.window top bits rr)) (hnow : 0 ≤ now ∧ now ≤ 1099511627776) (hm : mayM ⟨kind, (k : Nat), gen, sq, ep, va, me⟩ = true) (href : 0 ≤ ref ∧ ref ≤ 100000) (tl : List UInt8) (A : Option Addr) (cc : Nat) (hA : RdS T A (bv (putM ⟨kind, (k : Nat), gen, sq, ep, va, me⟩ ++ tl))) (hcc : 48 ≤ cc) (htl : tl.length = 16) (hk2n : ((k : Nat) : Int) ≠ 2)  : FnC Tryz.prog 10 #[.pointer (some ⟨gb, 0, none⟩), .slice A 48 cc, .int .i64 now, .func (.func 45) #[] #[]] (gateO gb c rb (some ⟨nb, 0, none⟩) N cn (some ⟨ob, 0, none⟩) N co ref :: ringO rb c.seed lb N c.grace asked :: (lb, row 127 (ones.flatMap On.cs)) :: (nb, row 62 (nws.map pp ++ sn)) :: (ob, row 62 (ols.map pp ++ so)) :: T) (fun v M' => ((chkC (okK x (sgen kind gen) now c.grace) (decide (bitsOf .or .u64 (xor64 (tagOf (if okK x (sgen kind gen) now c.grace = true then (macKey c.seed (k : Nat) (sgen kind gen)) else ⟨0, 0⟩) (putM ⟨kind, (k : Nat), gen, sq, ep, va, me⟩)).a (⟨((get8 tl 0 : Nat) : Int), ((get8 tl 8 : Nat) : Int)⟩ : K2).a) (xor64 (tagOf (if okK x (sgen kind gen) now c.grace = true then (macKey c.seed (k : Nat) (sgen kind gen)) else ⟨0, 0⟩) (putM ⟨kind, (k : Nat), gen, sq, ep, va, me⟩)).b (⟨((get8 tl 0 : Nat) : Int), ((get8 tl 8 : Nat) : Int)⟩ : K2).b) = 0)) (mayP c.window top bits sq) (decide (ep < now) || decide (c.fresh ≤ IntKind.u64.wrap (ep - now))) (decide (me < c.m))) = 0 ∧ v = .tuple #[.agg #[.int .i64 kind, .int .i64 ((k : Nat) : Int), .int .i64 gen, .int .i64 sq, .int .i64 ep, .int .i64 va, .int .i64 me], .int .i64 0] ∧ M' = (gateO gb c rb (some ⟨nb, 0, none⟩) N cn (some ⟨ob, 0, none⟩) N co ref :: ringO rb c.seed lb N c.grace (asked + 1) :: (lb, row 127 (ones.flatMap On.cs)) :: (nb, row 62 (nws.map pp ++ sn)) :: (ob, row 62 (ols.map pp ++ so)) :: T)) ∨ ((chkC (okK x (sgen kind gen) now c.grace) (decide (bitsOf .or .u64 (xor64 (tagOf (if okK x (sgen kind gen) now c.grace = true then (macKey c.seed (k : Nat) (sgen kind gen)) else ⟨0, 0⟩) (putM ⟨kind, (k : Nat), gen, sq, ep, va, me⟩)).a (⟨((get8 tl 0 : Nat) : Int), ((get8 tl 8 : Nat) : Int)⟩ : K2).a) (xor64 (tagOf (if okK x (sgen kind gen) now c.grace = true then (macKey c.seed (k : Nat) (sgen kind gen)) else ⟨0, 0⟩) (putM ⟨kind, (k : Nat), gen, sq, ep, va, me⟩)).b (⟨((get8 tl 0 : Nat) : Int), ((get8 tl 8 : Nat) : Int)⟩ : K2).b) = 0)) (mayP c.window top bits sq) (decide (ep < now) || decide (c.fresh ≤ IntKind.u64.wrap (ep - now))) (decide (me < c.m))) ≠ 0 ∧ v = .tuple #[.agg #[.int .i64 0, .int .i64 0, .int .i64 0, .int .i64 0, .int .i64 0, .int .i64 0, .int .i64 0], .int .i64 (chkC (okK x (sgen kind gen) now c.grace) (decide (bitsOf .or .u64 (xor64 (tagOf (if okK x (sgen kind gen) now c.grace = true then (macKey c.seed (k : Nat) (sgen kind gen)) else ⟨0, 0⟩) (putM ⟨kind, (k : Nat), gen, sq, ep, va, me⟩)).a (⟨((get8 tl 0 : Nat) : Int), ((get8 tl 8 : Nat) : Int)⟩ : K2).a) (xor64 (tagOf (if okK x (sgen kind gen) now c.grace = true then (macKey c.seed (k : Nat) (sgen kind gen)) else ⟨0, 0⟩) (putM ⟨kind, (k : Nat), gen, sq, ep, va, me⟩)).b (⟨((get8 tl 0 : Nat) : Int), ((get8 tl 8 : Nat) : Int)⟩ : K2).b) = 0)) (mayP c.window top bits sq) (decide (ep < now) || decide (c.fresh ≤ IntKind.u64.wrap (ep - now))) (decide (me < c.m)))] ∧ M' = (gateO gb c rb (some ⟨nb, 0, none⟩) N cn (some ⟨ob, 0, none⟩) N co (ref + 1) :: ringO rb c.seed lb N c.grace (asked + 1) :: (lb, row 127 (ones.flatMap On.cs)) :: (nb, row 62 (nws.map pp ++ sn)) :: (ob, row 62 (ols.map pp ++ so)) :: T))) := by
 obtain ⟨C, hC⟩ : ∃ C, C = chkC (okK x (sgen kind gen) now c.grace) (decide (bitsOf .or .u64 (xor64 (tagOf (if okK x (sgen kind gen) now c.grace = true then (macKey c.seed (k : Nat) (sgen kind gen)) else ⟨0, 0⟩) (putM ⟨kind, (k : Nat), gen, sq, ep, va, me⟩)).a (⟨((get8 tl 0 : Nat) : Int), ((get8 tl 8 : Nat) : Int)⟩ : K2).a) (xor64 (tagOf (if okK x (sgen kind gen) now c.grace = true then (macKey c.seed (k : Nat) (sgen kind gen)) else ⟨0, 0⟩) (putM ⟨kind, (k : Nat), gen, sq, ep, va, me⟩)).b (⟨((get8 tl 0 : Nat) : Int), ((get8 tl 8 : Nat) : Int)⟩ : K2).b) = 0)) (mayP c.window top bits sq) (decide (ep < now) || decide (c.fresh ≤ IntKind.u64.wrap (ep - now))) (decide (me < c.m)) := ⟨_, rfl⟩
 rw [← hC]
 have hmi := mayM_iff.1 hm
 simp only at hmi
 refine FnC.intro Tryz.func10 rfl 42 rfl (by simp) (fun z => ?_)
 refine TC.en (E' := [(0, _), (1, _), (2, _), (3, _)]) ?_
 refine TC.sr ?_
 refine TL.d (Does.alloc ze39 rfl) ?_
 rintro _ _ ⟨b1, rfl, rfl⟩
 refine TL.v (Val.assign rfl) ?_
 refine TL.nt ?_
 refine TC.seq ?_
 refine TC.sr ?_
 refine TL.v (Val.move rfl) ?_
 refine TL.v (Val.eqlNil rfl rfl pt28) ?_
 refine TL.nt ?_
 refine TC.en (E' := [(0, _), (1, _), (2, _), (3, _), (8, _), (9, _), (15, _)]) ?_
 refine TC.cond rfl (fun c1 => ?_) (fun c1 => ?_)
 ·
  (exfalso; simp at c1)
 ·
  refine TC.en (E' := [(0, _), (1, _), (2, _), (3, _), (8, _), (9, _)]) ?_
  refine TC.skip ?_
  refine AtX.then ?_
  refine TC.en (E' := [(0, _), (1, _), (2, _), (3, _), (8, _), (9, _)]) ?_
  refine TC.sr ?_
  refine TL.v (Val.move rfl) ?_
  refine TL.d (Does.callF go37 rfl (Split_fn ⟨kind, (k : Nat), gen, sq, ep, va, me⟩ tl A 48 cc _ ((((((hA.cons _).cons _).cons _).cons _).cons _).cons _) rfl hcc htl hm)) ?_
  rintro _ _ ⟨σ, rfl, hokσ, rfl⟩
  obtain ⟨bc, cc2, spc, rfl, hcc2⟩ := hokσ.some (by omega)
  refine TL.v (Val.move rfl) ?_
  refine TL.v (Val.extract rfl rfl) ?_
  refine TL.v (Val.extract rfl rfl) ?_
  refine TL.v (Val.extract rfl rfl) ?_
  refine TL.v (Val.extract rfl rfl) ?_
  refine TL.d (Does.alloc ze39 rfl) ?_
  rintro _ _ ⟨bM, rfl, rfl⟩
  refine TL.d (Does.alloc ze98 rfl) ?_
  rintro _ _ ⟨bT_, rfl, rfl⟩
  refine TL.d (Does.store (i := 1) rfl rfl rfl sz39 rfl rfl (by first | exact Nat.le_of_ble_eq_true rfl | decide | omega) rfl rfl) ?_
  rintro _ _ ⟨rfl, rfl⟩
  refine TL.v (Val.assign rfl) ?_
  refine TL.d (Does.store (i := 0) rfl rfl rfl sz98 rfl rfl (by first | exact Nat.le_of_ble_eq_true rfl | decide | omega) rfl rfl) ?_
  rintro _ _ ⟨rfl, rfl⟩
  refine TL.v (Val.assign rfl) ?_
  refine TL.nt ?_
  refine TC.en (E' := [(0, _), (2, _), (3, _), (8, _), (9, _), (10, _), (11, _), (12, _), (13, _)]) ?_
  refine TC.seq ?_
  refine TC.seq ?_
  refine TC.heap (M' := (gateO gb c rb (some ⟨nb, 0, none⟩) N cn (some ⟨ob, 0, none⟩) N co ref :: ringO rb c.seed lb N c.grace asked :: (lb, row 127 (ones.flatMap On.cs)) :: (nb, row 62 (nws.map pp ++ sn)) :: (ob, row 62 (ols.map pp ++ so)) :: ((bT_, .cells #[.int .u64 ((get8 tl 0 : Nat) : Int), .int .u64 ((get8 tl 8 : Nat) : Int)] 98 (0, 0)) :: (bM, .cells #[.int .i64 kind, .int .i64 ((k : Nat) : Int), .int .i64 gen, .int .i64 sq, .int .i64 ep, .int .i64 va, .int .i64 me] 39 (0, 0)) :: (bc, row 5 (bv (putM ⟨kind, (k : Nat), gen, sq, ep, va, me⟩) ++ spc)) :: (b1, .cells #[.int .i64 0, .int .i64 0, .int .i64 0, .int .i64 0, .int .i64 0, .int .i64 0, .int .i64 0] 39 (0, 0)) :: T))) (fun w h => ro_mv (A := [_, _, _, _]) (L := [_, _, _, _, _]) w h) ?_
  refine TC.region ?_
  refine TL.v (Val.move rfl) ?_
  refine TL.v (Val.eqlI rfl rfl) ?_
  refine TL.nt ?_
  refine TC.en (E' := [(0, _), (2, _), (3, _), (8, _), (9, _), (10, _), (11, _), (12, _), (13, _), (25, _)]) ?_
  refine TC.condP rfl (fun c2 => ?_) (fun c2 => ?_)
  ·
   refine TC.en (E' := [(0, _), (2, _), (3, _), (8, _), (9, _), (10, _), (11, _), (12, _), (13, _)]) ?_
   refine TC.region ?_
   refine TL.v (Val.move rfl) ?_
   refine TL.v (Val.loadAgg 6 rfl ag39 sz39 rfl rfl rfl) ?_
   refine TL.v (Val.move rfl) ?_
   refine TL.v (Val.loadAgg 5 rfl ag98 sz98 rfl rfl rfl) ?_
   refine TL.v (Val.move rfl) ?_
   refine TL.v (Val.move rfl) ?_
   refine TL.d (Does.callF go38 rfl (check_out gb rb lb nb cn ob co sn so c N asked ref ones nws ols _ hN h1 h2 h3 hgr has k x hx hxb hxs kind gen sq ep va me hgen hk2 now hc p p2 hp hp2 (ip + 4) top bits rr htop hrep ⟨by omega, by omega⟩ ⟨by omega, by omega⟩ hnow (putM ⟨kind, (k : Nat), gen, sq, ep, va, me⟩) _ 32 cc2 (rd_all (i := 2) rfl) (by simp) (by simp) ⟨((get8 tl 0 : Nat) : Int), ((get8 tl 8 : Nat) : Int)⟩ hk2n)) ?_
   rintro _ _ ⟨rfl, rfl⟩
   rw [← hC]
   refine TL.v (Val.assign rfl) ?_
   refine TL.nt ?_
   refine TC.en (E' := [(0, _), (8, _), (9, _), (10, _), (13, _)]) ?_
   refine TC.seq ?_
   refine TC.sr ?_
   refine TL.v (Val.move rfl) ?_
   refine TL.v (Val.neqI rfl rfl) ?_
   refine TL.nt ?_
   refine TC.en (E' := [(0, _), (8, _), (9, _), (10, _), (13, _), (34, _)]) ?_
   refine TC.condP rfl (fun c3 => ?_) (fun c3 => ?_)
   ·
    refine TC.en (E' := [(0, _), (8, _), (9, _), (10, _), (13, _)]) ?_
    refine TC.sr ?_
    refine TL.v (Val.move rfl) ?_
    refine TL.v (Val.nilCheck rfl) ?_
    refine TL.v (Val.fieldAddr rfl fl90_4 sz88 rfl) ?_
    refine TL.d (Does.callF go39 rfl (aAdd_fn gb 29 0 _ _ ref 1 (ref + 1) _ rfl rfl (w_i64 (by omega) (by omega)))) ?_
    rintro _ _ ⟨rfl, rfl⟩
    refine TL.nt ?_
    refine TC.en (E' := [(8, _), (9, _), (10, _), (13, _)]) ?_
    refine TC.sr ?_
    refine TL.v (Val.buildS pl39 ze39 rfl rfl) ?_
    refine TL.v (Val.move rfl) ?_
    refine TL.d (Does.store (i := 8) rfl rfl rfl sz39 rfl rfl (by first | exact Nat.le_of_ble_eq_true rfl | decide | omega) rfl rfl) ?_
    rintro _ _ ⟨rfl, rfl⟩
    refine TL.v (Val.assign rfl) ?_
    refine TL.nt ?_
    refine TC.en (E' := [(8, _), (9, _), (10, _)]) ?_
    refine TC.ret2 (fn := Tryz.f10) (fun _ _ h => h) rfl (RV.agg (i := 8) rfl ag39 sz39 rfl rfl rfl) (RV.tmp rfl) (M' := (gateO gb c rb (some ⟨nb, 0, none⟩) N cn (some ⟨ob, 0, none⟩) N co (ref + 1) :: ringO rb c.seed lb N c.grace (asked + 1) :: (lb, row 127 (ones.flatMap On.cs)) :: (nb, row 62 (nws.map pp ++ sn)) :: (ob, row 62 (ols.map pp ++ so)) :: T)) (fun w h => (ro_mv (A := [_, _, _, _, _]) (L := [_, _, _, _]) w h).drop.drop.drop.drop) ?_
    first | exact .inl ⟨by omega, rfl, rfl⟩ | exact .inr ⟨by assumption, rfl, rfl⟩
   ·
    refine TC.en (E' := [(8, _), (9, _), (10, _)]) ?_
    refine TC.skip ?_
    refine AtX.then ?_
    refine TC.en (E' := [(8, _), (9, _), (10, _)]) ?_
    refine TC.sr ?_
    refine TL.v (Val.loadAgg 6 rfl ag39 sz39 rfl rfl rfl) ?_
    refine TL.d (Does.store (i := 8) rfl rfl rfl sz39 rfl rfl (by first | exact Nat.le_of_ble_eq_true rfl | decide | omega) rfl rfl) ?_
    rintro _ _ ⟨rfl, rfl⟩
    refine TL.v (Val.assign rfl) ?_
    refine TL.nt ?_
    refine TC.en (E' := [(8, _), (9, _)]) ?_
    refine TC.ret2 (fn := Tryz.f10) (fun _ _ h => h) rfl (RV.agg (i := 8) rfl ag39 sz39 rfl rfl rfl) (RV.tmp rfl) (M' := (gateO gb c rb (some ⟨nb, 0, none⟩) N cn (some ⟨ob, 0, none⟩) N co ref :: ringO rb c.seed lb N c.grace (asked + 1) :: (lb, row 127 (ones.flatMap On.cs)) :: (nb, row 62 (nws.map pp ++ sn)) :: (ob, row 62 (ols.map pp ++ so)) :: T)) (fun w h => (ro_mv (A := [_, _, _, _, _]) (L := [_, _, _, _]) w h).drop.drop.drop.drop) ?_
    first | exact .inl ⟨by omega, rfl, rfl⟩ | exact .inr ⟨by assumption, rfl, rfl⟩
  ·
   exact absurd rfl c2

/-- (*quorumite/verify.Gate).Check -/
theorem Check_two (gb rb lb nb cn ob co : Nat) (sn so : List Value) (c : Cf) (N : Nat) (asked ref : Int) (ones : List On) (nws ols : List Nat) (T : Hp) (hN : c.n = N) (h1 : ones.length = N) (h2 : nws.length = N) (h3 : ols.length = N) (hgr : 1 ≤ c.grace ∧ c.grace ≤ 100) (has : 0 ≤ asked ∧ asked ≤ 90000) (k : Nat) (x : On) (hx : ones[k]? = some x) (hxb : 0 ≤ x.gen ∧ x.gen ≤ 60000) (hxs : 0 ≤ x.since ∧ x.since ≤ 1099511627776) (kind gen sq ep va me : Int) (hgen : -1000000 ≤ gen ∧ gen ≤ 1000000) (hk2 : kind = 2 → gen - 1 = x.gen) (now : Int) (hc : OkC c) (p p2 : Nat) (hp : nws[k]? = some p) (hp2 : ols[k]? = some p2) (ip : Nat) (top bits rr : Int) (htop : 0 ≤ top ∧ top ≤ 1000000) (hrep : T[ip]? = some (repO (if sgen kind gen = x.gen then p else p2) c.window top bits rr)) (hnow : 0 ≤ now ∧ now ≤ 1099511627776) (hm : mayM ⟨kind, (k : Nat), gen, sq, ep, va, me⟩ = true) (href : 0 ≤ ref ∧ ref ≤ 100000) (tl : List UInt8) (A : Option Addr) (cc : Nat) (hA : RdS T A (bv (putM ⟨kind, (k : Nat), gen, sq, ep, va, me⟩ ++ tl))) (hcc : 48 ≤ cc) (htl : tl.length = 16) (hk2n : ((k : Nat) : Int) = 2)  : FnC Tryz.prog 10 #[.pointer (some ⟨gb, 0, none⟩), .slice A 48 cc, .int .i64 now, .func (.func 45) #[] #[]] (gateO gb c rb (some ⟨nb, 0, none⟩) N cn (some ⟨ob, 0, none⟩) N co ref :: ringO rb c.seed lb N c.grace asked :: (lb, row 127 (ones.flatMap On.cs)) :: (nb, row 62 (nws.map pp ++ sn)) :: (ob, row 62 (ols.map pp ++ so)) :: T) (fun v M' => v = .tuple #[.agg #[.int .i64 0, .int .i64 0, .int .i64 0, .int .i64 0, .int .i64 0, .int .i64 0, .int .i64 0], .int .i64 3] ∧ M' = (gateO gb c rb (some ⟨nb, 0, none⟩) N cn (some ⟨ob, 0, none⟩) N co (ref + 1) :: ringO rb c.seed lb N c.grace asked :: (lb, row 127 (ones.flatMap On.cs)) :: (nb, row 62 (nws.map pp ++ sn)) :: (ob, row 62 (ols.map pp ++ so)) :: T)) := by
 have hmi := mayM_iff.1 hm
 simp only at hmi
 refine FnC.intro Tryz.func10 rfl 42 rfl (by simp) (fun z => ?_)
 refine TC.en (E' := [(0, _), (1, _), (2, _), (3, _)]) ?_
 refine TC.sr ?_
 refine TL.d (Does.alloc ze39 rfl) ?_
 rintro _ _ ⟨b1, rfl, rfl⟩
 refine TL.v (Val.assign rfl) ?_
 refine TL.nt ?_
 refine TC.seq ?_
 refine TC.sr ?_
 refine TL.v (Val.move rfl) ?_
 refine TL.v (Val.eqlNil rfl rfl pt28) ?_
 refine TL.nt ?_
 refine TC.en (E' := [(0, _), (1, _), (2, _), (3, _), (8, _), (9, _), (15, _)]) ?_
 refine TC.cond rfl (fun c1 => ?_) (fun c1 => ?_)
 ·
  (exfalso; simp at c1)
 ·
  refine TC.en (E' := [(0, _), (1, _), (2, _), (3, _), (8, _), (9, _)]) ?_
  refine TC.skip ?_
  refine AtX.then ?_
  refine TC.en (E' := [(0, _), (1, _), (2, _), (3, _), (8, _), (9, _)]) ?_
  refine TC.sr ?_
  refine TL.v (Val.move rfl) ?_
  refine TL.d (Does.callF go37 rfl (Split_fn ⟨kind, (k : Nat), gen, sq, ep, va, me⟩ tl A 48 cc _ ((((((hA.cons _).cons _).cons _).cons _).cons _).cons _) rfl hcc htl hm)) ?_
  rintro _ _ ⟨σ, rfl, hokσ, rfl⟩
  obtain ⟨bc, cc2, spc, rfl, hcc2⟩ := hokσ.some (by omega)
  refine TL.v (Val.move rfl) ?_
  refine TL.v (Val.extract rfl rfl) ?_
  refine TL.v (Val.extract rfl rfl) ?_
  refine TL.v (Val.extract rfl rfl) ?_
  refine TL.v (Val.extract rfl rfl) ?_
  refine TL.d (Does.alloc ze39 rfl) ?_
  rintro _ _ ⟨bM, rfl, rfl⟩
  refine TL.d (Does.alloc ze98 rfl) ?_
  rintro _ _ ⟨bT_, rfl, rfl⟩
  refine TL.d (Does.store (i := 1) rfl rfl rfl sz39 rfl rfl (by first | exact Nat.le_of_ble_eq_true rfl | decide | omega) rfl rfl) ?_
  rintro _ _ ⟨rfl, rfl⟩
  refine TL.v (Val.assign rfl) ?_
  refine TL.d (Does.store (i := 0) rfl rfl rfl sz98 rfl rfl (by first | exact Nat.le_of_ble_eq_true rfl | decide | omega) rfl rfl) ?_
  rintro _ _ ⟨rfl, rfl⟩
  refine TL.v (Val.assign rfl) ?_
  refine TL.nt ?_
  refine TC.en (E' := [(0, _), (2, _), (3, _), (8, _), (9, _), (10, _), (11, _), (12, _), (13, _)]) ?_
  refine TC.seq ?_
  refine TC.seq ?_
  refine TC.heap (M' := (gateO gb c rb (some ⟨nb, 0, none⟩) N cn (some ⟨ob, 0, none⟩) N co ref :: ringO rb c.seed lb N c.grace asked :: (lb, row 127 (ones.flatMap On.cs)) :: (nb, row 62 (nws.map pp ++ sn)) :: (ob, row 62 (ols.map pp ++ so)) :: ((bT_, .cells #[.int .u64 ((get8 tl 0 : Nat) : Int), .int .u64 ((get8 tl 8 : Nat) : Int)] 98 (0, 0)) :: (bM, .cells #[.int .i64 kind, .int .i64 ((k : Nat) : Int), .int .i64 gen, .int .i64 sq, .int .i64 ep, .int .i64 va, .int .i64 me] 39 (0, 0)) :: (bc, row 5 (bv (putM ⟨kind, (k : Nat), gen, sq, ep, va, me⟩) ++ spc)) :: (b1, .cells #[.int .i64 0, .int .i64 0, .int .i64 0, .int .i64 0, .int .i64 0, .int .i64 0, .int .i64 0] 39 (0, 0)) :: T))) (fun w h => ro_mv (A := [_, _, _, _]) (L := [_, _, _, _, _]) w h) ?_
  refine TC.region ?_
  refine TL.v (Val.move rfl) ?_
  refine TL.v (Val.eqlI rfl rfl) ?_
  refine TL.nt ?_
  refine TC.en (E' := [(0, _), (2, _), (3, _), (8, _), (9, _), (10, _), (11, _), (12, _), (13, _), (25, _)]) ?_
  refine TC.condP rfl (fun c2 => ?_) (fun c2 => ?_)
  ·
   refine TC.en (E' := [(0, _), (2, _), (3, _), (8, _), (9, _), (10, _), (11, _), (12, _), (13, _)]) ?_
   refine TC.region ?_
   refine TL.v (Val.move rfl) ?_
   refine TL.v (Val.loadAgg 6 rfl ag39 sz39 rfl rfl rfl) ?_
   refine TL.v (Val.move rfl) ?_
   refine TL.v (Val.loadAgg 5 rfl ag98 sz98 rfl rfl rfl) ?_
   refine TL.v (Val.move rfl) ?_
   refine TL.v (Val.move rfl) ?_
   refine TL.d (Does.callF go38 rfl (check_two gb rb lb nb cn ob co sn so c N asked ref ones nws ols _ hN h1 h2 h3 hgr has k x hx hxb hxs kind gen sq ep va me hgen hk2 now hc p p2 hp hp2 (ip + 4) top bits rr htop hrep ⟨by omega, by omega⟩ ⟨by omega, by omega⟩ hnow (putM ⟨kind, (k : Nat), gen, sq, ep, va, me⟩) _ 32 cc2 (rd_all (i := 2) rfl) (by simp) (by simp) ⟨((get8 tl 0 : Nat) : Int), ((get8 tl 8 : Nat) : Int)⟩ hk2n)) ?_
   rintro _ _ ⟨rfl, rfl⟩
   refine TL.v (Val.assign rfl) ?_
   refine TL.nt ?_
   refine TC.en (E' := [(0, _), (8, _), (9, _), (10, _), (13, _)]) ?_
   refine TC.seq ?_
   refine TC.sr ?_
   refine TL.v (Val.move rfl) ?_
   refine TL.v (Val.neqI rfl rfl) ?_
   refine TL.nt ?_
   refine TC.en (E' := [(0, _), (8, _), (9, _), (10, _), (13, _), (34, _)]) ?_
   refine TC.condP rfl (fun c3 => ?_) (fun c3 => ?_)
   ·
    refine TC.en (E' := [(0, _), (8, _), (9, _), (10, _), (13, _)]) ?_
    refine TC.sr ?_
    refine TL.v (Val.move rfl) ?_
    refine TL.v (Val.nilCheck rfl) ?_
    refine TL.v (Val.fieldAddr rfl fl90_4 sz88 rfl) ?_
    refine TL.d (Does.callF go39 rfl (aAdd_fn gb 29 0 _ _ ref 1 (ref + 1) _ rfl rfl (w_i64 (by omega) (by omega)))) ?_
    rintro _ _ ⟨rfl, rfl⟩
    refine TL.nt ?_
    refine TC.en (E' := [(8, _), (9, _), (10, _), (13, _)]) ?_
    refine TC.sr ?_
    refine TL.v (Val.buildS pl39 ze39 rfl rfl) ?_
    refine TL.v (Val.move rfl) ?_
    refine TL.d (Does.store (i := 8) rfl rfl rfl sz39 rfl rfl (by first | exact Nat.le_of_ble_eq_true rfl | decide | omega) rfl rfl) ?_
    rintro _ _ ⟨rfl, rfl⟩
    refine TL.v (Val.assign rfl) ?_
    refine TL.nt ?_
    refine TC.en (E' := [(8, _), (9, _), (10, _)]) ?_
    refine TC.ret2 (fn := Tryz.f10) (fun _ _ h => h) rfl (RV.agg (i := 8) rfl ag39 sz39 rfl rfl rfl) (RV.tmp rfl) (M' := (gateO gb c rb (some ⟨nb, 0, none⟩) N cn (some ⟨ob, 0, none⟩) N co (ref + 1) :: ringO rb c.seed lb N c.grace asked :: (lb, row 127 (ones.flatMap On.cs)) :: (nb, row 62 (nws.map pp ++ sn)) :: (ob, row 62 (ols.map pp ++ so)) :: T)) (fun w h => (ro_mv (A := [_, _, _, _, _]) (L := [_, _, _, _]) w h).drop.drop.drop.drop) ?_
    exact ⟨rfl, rfl⟩
   ·
    (exfalso; simp at c3)
  ·
   exact absurd rfl c2

end Go.Proofs.YtphoapajlcaoeaaGreat
/- walks -/
set_option linter.unusedVariables false
set_option linter.unusedSimpArgs false
set_option maxRecDepth 100000
set_option maxHeartbeats 4000000
namespace Go.Proofs.YtphoapajlcaoeaaGreat
open Go Go.X
/-- (*quorumite/verify.Gate).Take -/
theorem Take_s (gb rb lb nb cn ob co : Nat) (sn so : List Value) (c : Cf) (N : Nat) (asked ref : Int) (ones : List On) (nws ols : List Nat) (T : Hp) (hN : c.n = N) (h1 : ones.length = N) (h2 : nws.length = N) (h3 : ols.length = N) (hgr : 1 ≤ c.grace ∧ c.grace ≤ 100) (has : 0 ≤ asked ∧ asked ≤ 90000) (k : Nat) (x : On) (hx : ones[k]? = some x) (hxb : 0 ≤ x.gen ∧ x.gen ≤ 60000) (hxs : 0 ≤ x.since ∧ x.since ≤ 1099511627776) (kind gen sq ep va me : Int) (hgen : -1000000 ≤ gen ∧ gen ≤ 1000000) (hk2 : kind = 2 → gen - 1 = x.gen) (now : Int) (hc : OkC c) (p p2 : Nat) (hp : nws[k]? = some p) (hp2 : ols[k]? = some p2) (ip : Nat) (top bits rr : Int) (htop : 0 ≤ top ∧ top ≤ 1000000) (hrep : T[ip]? = some (repO (if sgen kind gen = x.gen then p else p2) c.window top bits rr)) (hnow : 0 ≤ now ∧ now ≤ 1099511627776) (hm : mayM ⟨kind, (k : Nat), gen, sq, ep, va, me⟩ = true) (hok : okK x (sgen kind gen) now c.grace = true) (hk1 : kind ≠ 2) (hsq : sq = top + 1) (hmay : mayP c.window top bits sq = true) : FnC Tryz.prog 18 #[.pointer (some ⟨gb, 0, none⟩), .agg #[.int .i64 kind, .int .i64 ((k : Nat) : Int), .int .i64 gen, .int .i64 sq, .int .i64 ep, .int .i64 va, .int .i64 me], .int .i64 now] (gateO gb c rb (some ⟨nb, 0, none⟩) N cn (some ⟨ob, 0, none⟩) N co ref :: ringO rb c.seed lb N c.grace asked :: (lb, row 127 (ones.flatMap On.cs)) :: (nb, row 62 (nws.map pp ++ sn)) :: (ob, row 62 (ols.map pp ++ so)) :: T) (fun v M' => v = .int .i64 0 ∧ M' = (gateO gb c rb (some ⟨nb, 0, none⟩) N cn (some ⟨ob, 0, none⟩) N co ref :: ringO rb c.seed lb N c.grace (asked + 1) :: (lb, row 127 (ones.flatMap On.cs)) :: (nb, row 62 (nws.map pp ++ sn)) :: (ob, row 62 (ols.map pp ++ so)) :: (T.set ip (repO (if sgen kind gen = x.gen then p else p2) c.window (top + 1) (nextB c.window bits) rr)))) := by
 have hkN : k < N := by rw [← h1]; exact (List.getElem?_eq_some_iff.1 hx).1
 have hwin := hc.window
 have hmi := mayM_iff.1 hm
 simp only at hmi
 refine FnC.intro Tryz.func18 rfl 91 rfl (by simp) (fun z => ?_)
 refine TC.en (E' := [(0, _), (1, _), (2, _)]) ?_
 refine TC.sr ?_
 refine TL.d (Does.box rfl rfl) ?_
 rintro _ _ ⟨b1, rfl, rfl⟩
 refine TL.v (Val.assign rfl) ?_
 refine TL.nt ?_
 refine TC.en (E' := [(0, _), (2, _), (4, _), (6, _)]) ?_
 refine TC.seq ?_
 refine TC.block ?_
 refine TC.seq ?_
 refine TC.heap (M' := (gateO gb c rb (some ⟨nb, 0, none⟩) N cn (some ⟨ob, 0, none⟩) N co ref :: ringO rb c.seed lb N c.grace asked :: (lb, row 127 (ones.flatMap On.cs)) :: (nb, row 62 (nws.map pp ++ sn)) :: (ob, row 62 (ols.map pp ++ so)) :: ((b1, .cells #[.int .i64 kind, .int .i64 ((k : Nat) : Int), .int .i64 gen, .int .i64 sq, .int .i64 ep, .int .i64 va, .int .i64 me] 39 (0, 0)) :: T))) (fun w h => ro_mv (A := [_]) (L := [_, _, _, _, _]) w h) ?_
 refine TC.region ?_
 refine TL.v (Val.move rfl) ?_
 refine TL.v (Val.eqlNil rfl rfl pt28) ?_
 refine TL.v (Val.move rfl) ?_
 refine TL.vy (Val.loadAgg 5 rfl ag39 sz39 rfl rfl rfl) ?_
 refine TL.dy (Does.callF go52 rfl (May_true ⟨kind, (k : Nat), gen, sq, ep, va, me⟩ _ hm)) ?_
 rintro _ _ ⟨rfl, rfl⟩
 refine TL.vy (Val.not rfl) ?_
 refine TL.v (Val.pickOr rfl rfl rfl) ?_
 refine TL.v (Val.move rfl) ?_
 refine TL.vy (Val.move rfl) ?_
 refine TL.vy (Val.same (v' := .bool false) (Val.lss rfl rfl) (congrArg Value.bool (decide_eq_false (by omega)))) ?_
 refine TL.v (Val.pickOr rfl rfl rfl) ?_
 refine TL.v (Val.move rfl) ?_
 refine TL.vy (Val.move rfl) ?_
 refine TL.vy (Val.same (v' := .bool false) (Val.gtr rfl rfl) (congrArg Value.bool (decide_eq_false (by omega)))) ?_
 refine TL.v (Val.pickOr rfl rfl rfl) ?_
 refine TL.v (Val.assign rfl) ?_
 refine TL.nt ?_
 refine TC.en (E' := [(0, _), (2, _), (4, _), (6, _), (10, _)]) ?_
 refine TC.cond rfl (fun c1 => ?_) (fun c1 => ?_)
 ·
  (exfalso; simp at c1)
 ·
  refine TC.en (E' := [(0, _), (2, _), (4, _), (6, _)]) ?_
  refine TC.seq ?_
  refine TC.drawLM mixed 9 ?_
  refine TA.tk 0 1 rfl rfl rfl (Val.fieldAddr rfl fl39_1 sz3 rfl) ?_
  refine TA.tk 1 3 rfl rfl rfl (Val.load 5 rfl ag3 rfl rfl) ?_
  refine TA.tk 2 7 rfl rfl rfl (Val.move rfl) ?_
  refine TA.tk 3 15 rfl rfl rfl (Val.nilCheck rfl) ?_
  refine TA.tk 4 31 rfl rfl rfl (Val.fieldAddr rfl fl90_0 sz26 rfl) ?_
  refine TA.tk 5 63 rfl rfl rfl (Val.fieldAddr rfl fl26_0 sz3 rfl) ?_
  refine TA.tk 6 127 rfl rfl rfl (Val.load 0 rfl ag3 rfl rfl) ?_
  refine TA.tk 7 255 rfl rfl rfl (Val.geq rfl rfl) ?_
  refine TA.tk 8 511 rfl rfl rfl (Val.assign rfl) ?_
  refine TA.done (by kernel_rfl) ?_
  refine AtX.then ?_
  refine TC.en (E' := [(0, _), (2, _), (4, _), (6, _), (26, _)]) ?_
  refine TC.condP rfl (fun c2 => ?_) (fun c2 => ?_)
  ·
   (exfalso; grind)
  ·
   refine TC.en (E' := [(0, _), (2, _), (4, _), (6, _)]) ?_
   refine TC.skip ?_
   refine AtX.blk ?_
   refine AtX.then ?_
   refine TC.en (E' := [(0, _), (2, _), (4, _), (6, _)]) ?_
   refine TC.seq ?_
   refine TC.sr ?_
   refine TL.v (Val.move rfl) ?_
   refine TL.v (Val.loadAgg 5 rfl ag39 sz39 rfl rfl rfl) ?_
   refine TL.v (Val.move rfl) ?_
   refine TL.d (Does.callF go53 rfl (gKey_fn gb rb lb nb cn ob co sn so c N asked ref ones nws ols _ hN h1 h2 h3 hgr ⟨has.1, by omega⟩ k x hx hxb hxs kind gen sq ep va me hgen hk2 now)) ?_
   rintro _ _ ⟨rfl, rfl⟩
   rw [if_pos hok, if_pos hok]
   refine TL.v (Val.move rfl) ?_
   refine TL.v (Val.extract rfl rfl) ?_
   refine TL.v (Val.extract rfl rfl) ?_
   refine TL.d (Does.alloc ze57 rfl) ?_
   rintro _ _ ⟨b7, rfl, rfl⟩
   refine TL.d (Does.store (i := 0) rfl rfl rfl sz57 rfl rfl (by first | exact Nat.le_of_ble_eq_true rfl | decide | omega) rfl rfl) ?_
   rintro _ _ ⟨rfl, rfl⟩
   refine TL.v (Val.assign rfl) ?_
   refine TL.nt ?_
   refine TC.en (E' := [(0, _), (2, _), (4, _), (6, _), (8, _)]) ?_
   refine TC.seq ?_
   refine TC.heap (M' := (gateO gb c rb (some ⟨nb, 0, none⟩) N cn (some ⟨ob, 0, none⟩) N co ref :: ringO rb c.seed lb N c.grace (asked + 1) :: (lb, row 127 (ones.flatMap On.cs)) :: (nb, row 62 (nws.map pp ++ sn)) :: (ob, row 62 (ols.map pp ++ so)) :: ((b7, .cells #[.int .u64 (macKey c.seed (k : Nat) (sgen kind gen)).a, .int .u64 (macKey c.seed (k : Nat) (sgen kind gen)).b] 57 (0, 0)) :: (b1, .cells #[.int .i64 kind, .int .i64 ((k : Nat) : Int), .int .i64 gen, .int .i64 sq, .int .i64 ep, .int .i64 va, .int .i64 me] 39 (0, 0)) :: T))) (fun w h => ro_mv (A := [_]) (L := [_, _, _, _, _]) w h) ?_
   refine TC.region ?_
   refine TL.v (Val.move rfl) ?_
   refine TL.v (Val.neqI rfl rfl) ?_
   refine TL.nt ?_
   refine TC.en (E' := [(0, _), (2, _), (4, _), (6, _), (8, _), (43, _)]) ?_
   refine TC.condP rfl (fun c3 => ?_) (fun c3 => ?_)
   ·
    exact absurd rfl c3
   ·
    refine TC.en (E' := [(0, _), (2, _), (4, _), (6, _)]) ?_
    refine TC.skip ?_
    refine AtX.then ?_
    refine TC.en (E' := [(0, _), (2, _), (4, _), (6, _)]) ?_
    refine TC.sr ?_
    refine TL.v (Val.move rfl) ?_
    refine TL.v (Val.loadAgg 6 rfl ag39 sz39 rfl rfl rfl) ?_
    refine TL.d (Does.callF go54 rfl (gSel_fn gb rb lb nb cn ob co sn so c N (asked + 1) ref ones nws ols _ hN h1 h2 h3 hgr ⟨by omega, by omega⟩ k x hx hxb hxs kind gen sq ep va me hgen hk2 p p2 hp hp2)) ?_
    rintro _ _ ⟨rfl, rfl⟩
    refine TL.v (Val.assign rfl) ?_
    refine TL.nt ?_
    refine TC.en (E' := [(0, _), (2, _), (4, _), (6, _), (9, _)]) ?_
    refine TC.seq ?_
    refine TC.sr ?_
    refine TL.v (Val.move rfl) ?_
    refine TL.v (Val.fieldAddr rfl fl39_3 sz2 rfl) ?_
    refine TL.v (Val.load 6 rfl ag2 rfl rfl) ?_
    refine TL.d (Does.callF go55 rfl (pMay_fn (if sgen kind gen = x.gen then p else p2) (ip + 7) c.window top bits rr _ hrep hwin ⟨by omega, by omega⟩ sq ⟨by omega, by omega⟩)) ?_
    rintro _ _ ⟨rfl, rfl⟩
    rw [hmay]
    refine TL.v (Val.not rfl) ?_
    refine TL.nt ?_
    refine TC.en (E' := [(0, _), (2, _), (4, _), (6, _), (9, _), (52, _)]) ?_
    refine TC.condB rfl (fun c4 => ?_) (fun c4 => ?_)
    ·
     cases c4
    ·
     refine TC.en (E' := [(0, _), (2, _), (4, _), (6, _), (9, _)]) ?_
     refine TC.skip ?_
     refine AtX.then ?_
     refine TC.en (E' := [(0, _), (2, _), (4, _), (6, _), (9, _)]) ?_
     refine TC.seq ?_
     refine TC.sr ?_
     refine TL.v (Val.fieldAddr rfl fl39_0 sz3 rfl) ?_
     refine TL.v (Val.load 6 rfl ag3 rfl rfl) ?_
     refine TL.v (Val.eqlI rfl rfl) ?_
     refine TL.nt ?_
     refine TC.en (E' := [(0, _), (2, _), (4, _), (6, _), (9, _), (55, _)]) ?_
     refine TC.condP rfl (fun c5 => ?_) (fun c5 => ?_)
     ·
      (exfalso; omega)
     ·
      refine TC.en (E' := [(4, _), (6, _), (9, _)]) ?_
      refine TC.skip ?_
      refine AtX.then ?_
      refine TC.en (E' := [(4, _), (6, _), (9, _)]) ?_
      refine TC.sr ?_
      refine TL.v (Val.move rfl) ?_
      refine TL.v (Val.fieldAddr rfl fl39_3 sz2 rfl) ?_
      refine TL.v (Val.load 6 rfl ag2 rfl rfl) ?_
      refine TL.d (Does.callF go57 rfl (FnC.at0 (ip + 7) hrep (by rw [hsq]; exact pTake_next (if sgen kind gen = x.gen then p else p2) c.window top bits rr _ hwin ⟨by omega, by omega⟩ (hsq ▸ hmay)))) ?_
      rintro _ _ ⟨rfl, rfl⟩
      refine TL.v (Val.assign rfl) ?_
      refine TL.nt ?_
      refine TC.en (E' := [(6, _)]) ?_
      refine TC.ret1 (fn := Tryz.f18) (fun _ _ h => h) rfl (RV.tmp rfl) (M' := (gateO gb c rb (some ⟨nb, 0, none⟩) N cn (some ⟨ob, 0, none⟩) N co ref :: ringO rb c.seed lb N c.grace (asked + 1) :: (lb, row 127 (ones.flatMap On.cs)) :: (nb, row 62 (nws.map pp ++ sn)) :: (ob, row 62 (ols.map pp ++ so)) :: (T.set ip (repO (if sgen kind gen = x.gen then p else p2) c.window (top + 1) (nextB c.window bits) rr)))) (fun w h => (ro_mv (A := [_, _, _, _, _]) (L := [_, _]) w h).drop.drop) ?_
      exact ⟨rfl, rfl⟩

/-- (*quorumite/verify.Gate).Take -/
theorem Take_no (gb rb lb nb cn ob co : Nat) (sn so : List Value) (c : Cf) (N : Nat) (asked ref : Int) (ones : List On) (nws ols : List Nat) (T : Hp) (hN : c.n = N) (h1 : ones.length = N) (h2 : nws.length = N) (h3 : ols.length = N) (hgr : 1 ≤ c.grace ∧ c.grace ≤ 100) (has : 0 ≤ asked ∧ asked ≤ 90000) (k : Nat) (x : On) (hx : ones[k]? = some x) (hxb : 0 ≤ x.gen ∧ x.gen ≤ 60000) (hxs : 0 ≤ x.since ∧ x.since ≤ 1099511627776) (kind gen sq ep va me : Int) (hgen : -1000000 ≤ gen ∧ gen ≤ 1000000) (hk2 : kind = 2 → gen - 1 = x.gen) (now : Int) (hc : OkC c) (p p2 : Nat) (hp : nws[k]? = some p) (hp2 : ols[k]? = some p2) (ip : Nat) (top bits rr : Int) (htop : 0 ≤ top ∧ top ≤ 1000000) (hrep : T[ip]? = some (repO (if sgen kind gen = x.gen then p else p2) c.window top bits rr)) (hnow : 0 ≤ now ∧ now ≤ 1099511627776) (hm : mayM ⟨kind, (k : Nat), gen, sq, ep, va, me⟩ = true) (hok : okK x (sgen kind gen) now c.grace = true) (hmay : mayP c.window top bits sq = false) : FnC Tryz.prog 18 #[.pointer (some ⟨gb, 0, none⟩), .agg #[.int .i64 kind, .int .i64 ((k : Nat) : Int), .int .i64 gen, .int .i64 sq, .int .i64 ep, .int .i64 va, .int .i64 me], .int .i64 now] (gateO gb c rb (some ⟨nb, 0, none⟩) N cn (some ⟨ob, 0, none⟩) N co ref :: ringO rb c.seed lb N c.grace asked :: (lb, row 127 (ones.flatMap On.cs)) :: (nb, row 62 (nws.map pp ++ sn)) :: (ob, row 62 (ols.map pp ++ so)) :: T) (fun v M' => v = .int .i64 6 ∧ M' = (gateO gb c rb (some ⟨nb, 0, none⟩) N cn (some ⟨ob, 0, none⟩) N co ref :: ringO rb c.seed lb N c.grace (asked + 1) :: (lb, row 127 (ones.flatMap On.cs)) :: (nb, row 62 (nws.map pp ++ sn)) :: (ob, row 62 (ols.map pp ++ so)) :: T)) := by
 have hkN : k < N := by rw [← h1]; exact (List.getElem?_eq_some_iff.1 hx).1
 have hwin := hc.window
 have hmi := mayM_iff.1 hm
 simp only at hmi
 refine FnC.intro Tryz.func18 rfl 91 rfl (by simp) (fun z => ?_)
 refine TC.en (E' := [(0, _), (1, _), (2, _)]) ?_
 refine TC.sr ?_
 refine TL.d (Does.box rfl rfl) ?_
 rintro _ _ ⟨b1, rfl, rfl⟩
 refine TL.v (Val.assign rfl) ?_
 refine TL.nt ?_
 refine TC.en (E' := [(0, _), (2, _), (4, _), (6, _)]) ?_
 refine TC.seq ?_
 refine TC.block ?_
 refine TC.seq ?_
 refine TC.heap (M' := (gateO gb c rb (some ⟨nb, 0, none⟩) N cn (some ⟨ob, 0, none⟩) N co ref :: ringO rb c.seed lb N c.grace asked :: (lb, row 127 (ones.flatMap On.cs)) :: (nb, row 62 (nws.map pp ++ sn)) :: (ob, row 62 (ols.map pp ++ so)) :: ((b1, .cells #[.int .i64 kind, .int .i64 ((k : Nat) : Int), .int .i64 gen, .int .i64 sq, .int .i64 ep, .int .i64 va, .int .i64 me] 39 (0, 0)) :: T))) (fun w h => ro_mv (A := [_]) (L := [_, _, _, _, _]) w h) ?_
 refine TC.region ?_
 refine TL.v (Val.move rfl) ?_
 refine TL.v (Val.eqlNil rfl rfl pt28) ?_
 refine TL.v (Val.move rfl) ?_
 refine TL.vy (Val.loadAgg 5 rfl ag39 sz39 rfl rfl rfl) ?_
 refine TL.dy (Does.callF go52 rfl (May_true ⟨kind, (k : Nat), gen, sq, ep, va, me⟩ _ hm)) ?_
 rintro _ _ ⟨rfl, rfl⟩
 refine TL.vy (Val.not rfl) ?_
 refine TL.v (Val.pickOr rfl rfl rfl) ?_
 refine TL.v (Val.move rfl) ?_
 refine TL.vy (Val.move rfl) ?_
 refine TL.vy (Val.same (v' := .bool false) (Val.lss rfl rfl) (congrArg Value.bool (decide_eq_false (by omega)))) ?_
 refine TL.v (Val.pickOr rfl rfl rfl) ?_
 refine TL.v (Val.move rfl) ?_
 refine TL.vy (Val.move rfl) ?_
 refine TL.vy (Val.same (v' := .bool false) (Val.gtr rfl rfl) (congrArg Value.bool (decide_eq_false (by omega)))) ?_
 refine TL.v (Val.pickOr rfl rfl rfl) ?_
 refine TL.v (Val.assign rfl) ?_
 refine TL.nt ?_
 refine TC.en (E' := [(0, _), (2, _), (4, _), (6, _), (10, _)]) ?_
 refine TC.cond rfl (fun c1 => ?_) (fun c1 => ?_)
 ·
  (exfalso; simp at c1)
 ·
  refine TC.en (E' := [(0, _), (2, _), (4, _), (6, _)]) ?_
  refine TC.seq ?_
  refine TC.drawLM mixed 9 ?_
  refine TA.tk 0 1 rfl rfl rfl (Val.fieldAddr rfl fl39_1 sz3 rfl) ?_
  refine TA.tk 1 3 rfl rfl rfl (Val.load 5 rfl ag3 rfl rfl) ?_
  refine TA.tk 2 7 rfl rfl rfl (Val.move rfl) ?_
  refine TA.tk 3 15 rfl rfl rfl (Val.nilCheck rfl) ?_
  refine TA.tk 4 31 rfl rfl rfl (Val.fieldAddr rfl fl90_0 sz26 rfl) ?_
  refine TA.tk 5 63 rfl rfl rfl (Val.fieldAddr rfl fl26_0 sz3 rfl) ?_
  refine TA.tk 6 127 rfl rfl rfl (Val.load 0 rfl ag3 rfl rfl) ?_
  refine TA.tk 7 255 rfl rfl rfl (Val.geq rfl rfl) ?_
  refine TA.tk 8 511 rfl rfl rfl (Val.assign rfl) ?_
  refine TA.done (by kernel_rfl) ?_
  refine AtX.then ?_
  refine TC.en (E' := [(0, _), (2, _), (4, _), (6, _), (26, _)]) ?_
  refine TC.condP rfl (fun c2 => ?_) (fun c2 => ?_)
  ·
   (exfalso; grind)
  ·
   refine TC.en (E' := [(0, _), (2, _), (4, _), (6, _)]) ?_
   refine TC.skip ?_
   refine AtX.blk ?_
   refine AtX.then ?_
   refine TC.en (E' := [(0, _), (2, _), (4, _), (6, _)]) ?_
   refine TC.seq ?_
   refine TC.sr ?_
   refine TL.v (Val.move rfl) ?_
   refine TL.v (Val.loadAgg 5 rfl ag39 sz39 rfl rfl rfl) ?_
   refine TL.v (Val.move rfl) ?_
   refine TL.d (Does.callF go53 rfl (gKey_fn gb rb lb nb cn ob co sn so c N asked ref ones nws ols _ hN h1 h2 h3 hgr ⟨has.1, by omega⟩ k x hx hxb hxs kind gen sq ep va me hgen hk2 now)) ?_
   rintro _ _ ⟨rfl, rfl⟩
   rw [if_pos hok, if_pos hok]
   refine TL.v (Val.move rfl) ?_
   refine TL.v (Val.extract rfl rfl) ?_
   refine TL.v (Val.extract rfl rfl) ?_
   refine TL.d (Does.alloc ze57 rfl) ?_
   rintro _ _ ⟨b7, rfl, rfl⟩
   refine TL.d (Does.store (i := 0) rfl rfl rfl sz57 rfl rfl (by first | exact Nat.le_of_ble_eq_true rfl | decide | omega) rfl rfl) ?_
   rintro _ _ ⟨rfl, rfl⟩
   refine TL.v (Val.assign rfl) ?_
   refine TL.nt ?_
   refine TC.en (E' := [(0, _), (2, _), (4, _), (6, _), (8, _)]) ?_
   refine TC.seq ?_
   refine TC.heap (M' := (gateO gb c rb (some ⟨nb, 0, none⟩) N cn (some ⟨ob, 0, none⟩) N co ref :: ringO rb c.seed lb N c.grace (asked + 1) :: (lb, row 127 (ones.flatMap On.cs)) :: (nb, row 62 (nws.map pp ++ sn)) :: (ob, row 62 (ols.map pp ++ so)) :: ((b7, .cells #[.int .u64 (macKey c.seed (k : Nat) (sgen kind gen)).a, .int .u64 (macKey c.seed (k : Nat) (sgen kind gen)).b] 57 (0, 0)) :: (b1, .cells #[.int .i64 kind, .int .i64 ((k : Nat) : Int), .int .i64 gen, .int .i64 sq, .int .i64 ep, .int .i64 va, .int .i64 me] 39 (0, 0)) :: T))) (fun w h => ro_mv (A := [_]) (L := [_, _, _, _, _]) w h) ?_
   refine TC.region ?_
   refine TL.v (Val.move rfl) ?_
   refine TL.v (Val.neqI rfl rfl) ?_
   refine TL.nt ?_
   refine TC.en (E' := [(0, _), (2, _), (4, _), (6, _), (8, _), (43, _)]) ?_
   refine TC.condP rfl (fun c3 => ?_) (fun c3 => ?_)
   ·
    exact absurd rfl c3
   ·
    refine TC.en (E' := [(0, _), (2, _), (4, _), (6, _)]) ?_
    refine TC.skip ?_
    refine AtX.then ?_
    refine TC.en (E' := [(0, _), (2, _), (4, _), (6, _)]) ?_
    refine TC.sr ?_
    refine TL.v (Val.move rfl) ?_
    refine TL.v (Val.loadAgg 6 rfl ag39 sz39 rfl rfl rfl) ?_
    refine TL.d (Does.callF go54 rfl (gSel_fn gb rb lb nb cn ob co sn so c N (asked + 1) ref ones nws ols _ hN h1 h2 h3 hgr ⟨by omega, by omega⟩ k x hx hxb hxs kind gen sq ep va me hgen hk2 p p2 hp hp2)) ?_
    rintro _ _ ⟨rfl, rfl⟩
    refine TL.v (Val.assign rfl) ?_
    refine TL.nt ?_
    refine TC.en (E' := [(0, _), (2, _), (4, _), (6, _), (9, _)]) ?_
    refine TC.seq ?_
    refine TC.sr ?_
    refine TL.v (Val.move rfl) ?_
    refine TL.v (Val.fieldAddr rfl fl39_3 sz2 rfl) ?_
    refine TL.v (Val.load 6 rfl ag2 rfl rfl) ?_
    refine TL.d (Does.callF go55 rfl (pMay_fn (if sgen kind gen = x.gen then p else p2) (ip + 7) c.window top bits rr _ hrep hwin ⟨by omega, by omega⟩ sq ⟨by omega, by omega⟩)) ?_
    rintro _ _ ⟨rfl, rfl⟩
    rw [hmay]
    refine TL.v (Val.not rfl) ?_
    refine TL.nt ?_
    refine TC.en (E' := [(0, _), (2, _), (4, _), (6, _), (9, _), (52, _)]) ?_
    refine TC.condB rfl (fun c4 => ?_) (fun c4 => ?_)
    ·
     refine TC.en (E' := [(0, _), (2, _), (4, _), (6, _), (9, _)]) ?_
     refine TC.sr ?_
     refine TL.v (Val.assign rfl) ?_
     refine TL.nt ?_
     refine TC.en (E' := [(0, _), (2, _), (4, _), (6, _), (9, _)]) ?_
     refine TC.ret1 (fn := Tryz.f18) (fun _ _ h => h) rfl (RV.tmp rfl) (M' := (gateO gb c rb (some ⟨nb, 0, none⟩) N cn (some ⟨ob, 0, none⟩) N co ref :: ringO rb c.seed lb N c.grace (asked + 1) :: (lb, row 127 (ones.flatMap On.cs)) :: (nb, row 62 (nws.map pp ++ sn)) :: (ob, row 62 (ols.map pp ++ so)) :: T)) (fun w h => (ro_mv (A := [_, _, _, _, _]) (L := [_, _]) w h).drop.drop) ?_
     exact ⟨rfl, rfl⟩
    ·
     cases c4

end Go.Proofs.YtphoapajlcaoeaaGreat
/- walks -/
set_option linter.unusedVariables false
set_option linter.unusedSimpArgs false
set_option maxRecDepth 100000
set_option maxHeartbeats 4000000
namespace Go.Proofs.YtphoapajlcaoeaaGreat
open Go Go.X
/-- (*quorumite/verify.Gate).Take -/
theorem Take_r (gb rb lb nb cn ob co : Nat) (sn so : List Value) (c : Cf) (N : Nat) (asked ref : Int) (ones : List On) (nws ols : List Nat) (T : Hp) (hN : c.n = N) (h1 : ones.length = N) (h2 : nws.length = N) (h3 : ols.length = N) (hgr : 1 ≤ c.grace ∧ c.grace ≤ 100) (has : 0 ≤ asked ∧ asked ≤ 90000) (k : Nat) (x : On) (hx : ones[k]? = some x) (hxb : 0 ≤ x.gen ∧ x.gen ≤ 60000) (hxs : 0 ≤ x.since ∧ x.since ≤ 1099511627776) (kind gen sq ep va me : Int) (hgen : -1000000 ≤ gen ∧ gen ≤ 1000000) (hk2 : kind = 2 → gen - 1 = x.gen) (now : Int) (hc : OkC c) (p p2 : Nat) (hp : nws[k]? = some p) (hp2 : ols[k]? = some p2) (ip : Nat) (top bits rr : Int) (htop : 0 ≤ top ∧ top ≤ 1000000) (hrep : T[ip]? = some (repO (if sgen kind gen = x.gen then p else p2) c.window top bits rr)) (hnow : 0 ≤ now ∧ now ≤ 1099511627776) (hm : mayM ⟨kind, (k : Nat), gen, sq, ep, va, me⟩ = true) (hok : okK x (sgen kind gen) now c.grace = true) (hk1 : kind = 2) (hsq : sq = top + 1) (hmay : mayP c.window top bits sq = true) : FnC Tryz.prog 18 #[.pointer (some ⟨gb, 0, none⟩), .agg #[.int .i64 kind, .int .i64 ((k : Nat) : Int), .int .i64 gen, .int .i64 sq, .int .i64 ep, .int .i64 va, .int .i64 me], .int .i64 now] (gateO gb c rb (some ⟨nb, 0, none⟩) N cn (some ⟨ob, 0, none⟩) N co ref :: ringO rb c.seed lb N c.grace asked :: (lb, row 127 (ones.flatMap On.cs)) :: (nb, row 62 (nws.map pp ++ sn)) :: (ob, row 62 (ols.map pp ++ so)) :: T) (fun v M' => ∃ pn : Nat, v = .int .i64 0 ∧ M' = (gateO gb c rb (some ⟨nb, 0, none⟩) N cn (some ⟨ob, 0, none⟩) N co ref :: ringO rb c.seed lb N c.grace (asked + 1) :: (lb, row 127 ((ones.set k ⟨gen, now⟩).flatMap On.cs)) :: (nb, row 62 ((nws.set k pn).map pp ++ sn)) :: (ob, row 62 ((ols.set k p).map pp ++ so)) :: (repO pn c.window 0 0 0 :: T.set ip (repO p c.window (top + 1) (nextB c.window bits) rr)))) := by
 have hkN : k < N := by rw [← h1]; exact (List.getElem?_eq_some_iff.1 hx).1
 have hwin := hc.window
 have hmi := mayM_iff.1 hm
 simp only at hmi
 have hsx : sgen kind gen = x.gen := by unfold sgen; rw [if_pos hk1]; exact hk2 hk1
 rw [if_pos hsx] at hrep
 have hkn : k < nws.length := by omega
 have hko : k < ols.length := by omega
 refine FnC.intro Tryz.func18 rfl 91 rfl (by simp) (fun z => ?_)
 refine TC.en (E' := [(0, _), (1, _), (2, _)]) ?_
 refine TC.sr ?_
 refine TL.d (Does.box rfl rfl) ?_
 rintro _ _ ⟨b1, rfl, rfl⟩
 refine TL.v (Val.assign rfl) ?_
 refine TL.nt ?_
 refine TC.en (E' := [(0, _), (2, _), (4, _), (6, _)]) ?_
 refine TC.seq ?_
 refine TC.block ?_
 refine TC.seq ?_
 refine TC.heap (M' := (gateO gb c rb (some ⟨nb, 0, none⟩) N cn (some ⟨ob, 0, none⟩) N co ref :: ringO rb c.seed lb N c.grace asked :: (lb, row 127 (ones.flatMap On.cs)) :: (nb, row 62 (nws.map pp ++ sn)) :: (ob, row 62 (ols.map pp ++ so)) :: ((b1, .cells #[.int .i64 kind, .int .i64 ((k : Nat) : Int), .int .i64 gen, .int .i64 sq, .int .i64 ep, .int .i64 va, .int .i64 me] 39 (0, 0)) :: T))) (fun w h => ro_mv (A := [_]) (L := [_, _, _, _, _]) w h) ?_
 refine TC.region ?_
 refine TL.v (Val.move rfl) ?_
 refine TL.v (Val.eqlNil rfl rfl pt28) ?_
 refine TL.v (Val.move rfl) ?_
 refine TL.vy (Val.loadAgg 5 rfl ag39 sz39 rfl rfl rfl) ?_
 refine TL.dy (Does.callF go52 rfl (May_true ⟨kind, (k : Nat), gen, sq, ep, va, me⟩ _ hm)) ?_
 rintro _ _ ⟨rfl, rfl⟩
 refine TL.vy (Val.not rfl) ?_
 refine TL.v (Val.pickOr rfl rfl rfl) ?_
 refine TL.v (Val.move rfl) ?_
 refine TL.vy (Val.move rfl) ?_
 refine TL.vy (Val.same (v' := .bool false) (Val.lss rfl rfl) (congrArg Value.bool (decide_eq_false (by omega)))) ?_
 refine TL.v (Val.pickOr rfl rfl rfl) ?_
 refine TL.v (Val.move rfl) ?_
 refine TL.vy (Val.move rfl) ?_
 refine TL.vy (Val.same (v' := .bool false) (Val.gtr rfl rfl) (congrArg Value.bool (decide_eq_false (by omega)))) ?_
 refine TL.v (Val.pickOr rfl rfl rfl) ?_
 refine TL.v (Val.assign rfl) ?_
 refine TL.nt ?_
 refine TC.en (E' := [(0, _), (2, _), (4, _), (6, _), (10, _)]) ?_
 refine TC.cond rfl (fun c1 => ?_) (fun c1 => ?_)
 ·
  (exfalso; simp at c1)
 ·
  refine TC.en (E' := [(0, _), (2, _), (4, _), (6, _)]) ?_
  refine TC.seq ?_
  refine TC.drawLM mixed 9 ?_
  refine TA.tk 0 1 rfl rfl rfl (Val.fieldAddr rfl fl39_1 sz3 rfl) ?_
  refine TA.tk 1 3 rfl rfl rfl (Val.load 5 rfl ag3 rfl rfl) ?_
  refine TA.tk 2 7 rfl rfl rfl (Val.move rfl) ?_
  refine TA.tk 3 15 rfl rfl rfl (Val.nilCheck rfl) ?_
  refine TA.tk 4 31 rfl rfl rfl (Val.fieldAddr rfl fl90_0 sz26 rfl) ?_
  refine TA.tk 5 63 rfl rfl rfl (Val.fieldAddr rfl fl26_0 sz3 rfl) ?_
  refine TA.tk 6 127 rfl rfl rfl (Val.load 0 rfl ag3 rfl rfl) ?_
  refine TA.tk 7 255 rfl rfl rfl (Val.geq rfl rfl) ?_
  refine TA.tk 8 511 rfl rfl rfl (Val.assign rfl) ?_
  refine TA.done (by kernel_rfl) ?_
  refine AtX.then ?_
  refine TC.en (E' := [(0, _), (2, _), (4, _), (6, _), (26, _)]) ?_
  refine TC.condP rfl (fun c2 => ?_) (fun c2 => ?_)
  ·
   (exfalso; grind)
  ·
   refine TC.en (E' := [(0, _), (2, _), (4, _), (6, _)]) ?_
   refine TC.skip ?_
   refine AtX.blk ?_
   refine AtX.then ?_
   refine TC.en (E' := [(0, _), (2, _), (4, _), (6, _)]) ?_
   refine TC.seq ?_
   refine TC.sr ?_
   refine TL.v (Val.move rfl) ?_
   refine TL.v (Val.loadAgg 5 rfl ag39 sz39 rfl rfl rfl) ?_
   refine TL.v (Val.move rfl) ?_
   refine TL.d (Does.callF go53 rfl (gKey_fn gb rb lb nb cn ob co sn so c N asked ref ones nws ols _ hN h1 h2 h3 hgr ⟨has.1, by omega⟩ k x hx hxb hxs kind gen sq ep va me hgen hk2 now)) ?_
   rintro _ _ ⟨rfl, rfl⟩
   rw [if_pos hok, if_pos hok]
   refine TL.v (Val.move rfl) ?_
   refine TL.v (Val.extract rfl rfl) ?_
   refine TL.v (Val.extract rfl rfl) ?_
   refine TL.d (Does.alloc ze57 rfl) ?_
   rintro _ _ ⟨b7, rfl, rfl⟩
   refine TL.d (Does.store (i := 0) rfl rfl rfl sz57 rfl rfl (by first | exact Nat.le_of_ble_eq_true rfl | decide | omega) rfl rfl) ?_
   rintro _ _ ⟨rfl, rfl⟩
   refine TL.v (Val.assign rfl) ?_
   refine TL.nt ?_
   refine TC.en (E' := [(0, _), (2, _), (4, _), (6, _), (8, _)]) ?_
   refine TC.seq ?_
   refine TC.heap (M' := (gateO gb c rb (some ⟨nb, 0, none⟩) N cn (some ⟨ob, 0, none⟩) N co ref :: ringO rb c.seed lb N c.grace (asked + 1) :: (lb, row 127 (ones.flatMap On.cs)) :: (nb, row 62 (nws.map pp ++ sn)) :: (ob, row 62 (ols.map pp ++ so)) :: ((b7, .cells #[.int .u64 (macKey c.seed (k : Nat) (sgen kind gen)).a, .int .u64 (macKey c.seed (k : Nat) (sgen kind gen)).b] 57 (0, 0)) :: (b1, .cells #[.int .i64 kind, .int .i64 ((k : Nat) : Int), .int .i64 gen, .int .i64 sq, .int .i64 ep, .int .i64 va, .int .i64 me] 39 (0, 0)) :: T))) (fun w h => ro_mv (A := [_]) (L := [_, _, _, _, _]) w h) ?_
   refine TC.region ?_
   refine TL.v (Val.move rfl) ?_
   refine TL.v (Val.neqI rfl rfl) ?_
   refine TL.nt ?_
   refine TC.en (E' := [(0, _), (2, _), (4, _), (6, _), (8, _), (43, _)]) ?_
   refine TC.condP rfl (fun c3 => ?_) (fun c3 => ?_)
   ·
    exact absurd rfl c3
   ·
    refine TC.en (E' := [(0, _), (2, _), (4, _), (6, _)]) ?_
    refine TC.skip ?_
    refine AtX.then ?_
    refine TC.en (E' := [(0, _), (2, _), (4, _), (6, _)]) ?_
    refine TC.sr ?_
    refine TL.v (Val.move rfl) ?_
    refine TL.v (Val.loadAgg 6 rfl ag39 sz39 rfl rfl rfl) ?_
    refine TL.d (Does.callF go54 rfl (gSel_fn gb rb lb nb cn ob co sn so c N (asked + 1) ref ones nws ols _ hN h1 h2 h3 hgr ⟨by omega, by omega⟩ k x hx hxb hxs kind gen sq ep va me hgen hk2 p p2 hp hp2)) ?_
    rintro _ _ ⟨rfl, rfl⟩
    rw [if_pos hsx]
    refine TL.v (Val.assign rfl) ?_
    refine TL.nt ?_
    refine TC.en (E' := [(0, _), (2, _), (4, _), (6, _), (9, _)]) ?_
    refine TC.seq ?_
    refine TC.sr ?_
    refine TL.v (Val.move rfl) ?_
    refine TL.v (Val.fieldAddr rfl fl39_3 sz2 rfl) ?_
    refine TL.v (Val.load 6 rfl ag2 rfl rfl) ?_
    refine TL.d (Does.callF go55 rfl (pMay_fn p (ip + 7) c.window top bits rr _ hrep hwin ⟨by omega, by omega⟩ sq ⟨by omega, by omega⟩)) ?_
    rintro _ _ ⟨rfl, rfl⟩
    rw [hmay]
    refine TL.v (Val.not rfl) ?_
    refine TL.nt ?_
    refine TC.en (E' := [(0, _), (2, _), (4, _), (6, _), (9, _), (52, _)]) ?_
    refine TC.condB rfl (fun c4 => ?_) (fun c4 => ?_)
    ·
     cases c4
    ·
     refine TC.en (E' := [(0, _), (2, _), (4, _), (6, _), (9, _)]) ?_
     refine TC.skip ?_
     refine AtX.then ?_
     refine TC.en (E' := [(0, _), (2, _), (4, _), (6, _), (9, _)]) ?_
     refine TC.seq ?_
     refine TC.sr ?_
     refine TL.v (Val.fieldAddr rfl fl39_0 sz3 rfl) ?_
     refine TL.v (Val.load 6 rfl ag3 rfl rfl) ?_
     refine TL.v (Val.eqlI rfl rfl) ?_
     refine TL.nt ?_
     refine TC.en (E' := [(0, _), (2, _), (4, _), (6, _), (9, _), (55, _)]) ?_
     refine TC.condP rfl (fun c5 => ?_) (fun c5 => ?_)
     ·
      refine TC.en (E' := [(0, _), (2, _), (4, _), (6, _), (9, _)]) ?_
      refine TC.seq ?_
      refine TC.drawL [gateO gb c rb (some ⟨nb, 0, none⟩) N cn (some ⟨ob, 0, none⟩) N co ref, (b1, .cells #[.int .i64 kind, .int .i64 ((k : Nat) : Int), .int .i64 gen, .int .i64 sq, .int .i64 ep, .int .i64 va, .int .i64 me] 39 (0, 0))] mixed 10 ?_
      refine TA.tk 0 1 rfl rfl rfl (Val.move rfl) ?_ (hro := (by repeat (first | exact Go.X.ro_gb | refine Go.X.ro_tail ?_)))
      refine TA.tk 1 3 rfl rfl rfl (Val.nilCheck rfl) ?_ (hro := (by repeat (first | exact Go.X.ro_gb | refine Go.X.ro_tail ?_)))
      refine TA.tk 2 7 rfl rfl rfl (Val.fieldAddr rfl fl90_1 sz60 rfl) ?_ (hro := (by repeat (first | exact Go.X.ro_gb | refine Go.X.ro_tail ?_)))
      refine TA.tk 3 15 rfl rfl rfl (Val.load 0 rfl ag60 rfl rfl) ?_ (hro := (by repeat (first | exact Go.X.ro_gb | refine Go.X.ro_tail ?_)))
      refine TA.tk 4 31 rfl rfl rfl (Val.fieldAddr rfl fl39_1 sz3 rfl) ?_ (hro := (by repeat (first | exact Go.X.ro_gb | refine Go.X.ro_tail ?_)))
      refine TA.tk 5 63 rfl rfl rfl (Val.load 1 rfl ag3 rfl rfl) ?_ (hro := (by repeat (first | exact Go.X.ro_gb | refine Go.X.ro_tail ?_)))
      refine TA.tk 6 127 rfl rfl rfl (Val.fieldAddr rfl fl39_2 sz3 rfl) ?_ (hro := (by repeat (first | exact Go.X.ro_gb | refine Go.X.ro_tail ?_)))
      refine TA.tk 7 255 rfl rfl rfl (Val.load 1 rfl ag3 rfl rfl) ?_ (hro := (by repeat (first | exact Go.X.ro_gb | refine Go.X.ro_tail ?_)))
      refine TA.tk 8 511 rfl rfl rfl (Val.move rfl) ?_ (hro := (by repeat (first | exact Go.X.ro_gb | refine Go.X.ro_tail ?_)))
      refine TA.one 9 (by kernel_rfl) ?_
      refine TO.dz 1023 (some 65) rfl rfl rfl rfl (Does.callF go56 rfl (rRotate_fn rb lb 1 c.seed N c.grace (asked + 1) _ rfl 2 ones rfl h1.symm k x hx gen now ⟨by have := hk2 hk1; omega, by omega, by omega⟩ hnow)) ?_
      rintro _ _ ⟨rfl, rfl⟩
      refine ⟨(by repeat (first | exact Go.X.ro_gb | refine Go.X.ro_tail ?_)), ?_⟩
      refine TA.done (by kernel_rfl) ?_
      refine AtX.then ?_
      refine TC.en (E' := [(0, _), (4, _), (6, _), (9, _)]) ?_
      refine TC.drawL [gateO gb c rb (some ⟨nb, 0, none⟩) N cn (some ⟨ob, 0, none⟩) N co ref, (b1, .cells #[.int .i64 kind, .int .i64 ((k : Nat) : Int), .int .i64 gen, .int .i64 sq, .int .i64 ep, .int .i64 va, .int .i64 me] 39 (0, 0))] mixed 23 ?_
      refine TA.tk 0 1 rfl rfl rfl (Val.move rfl) ?_ (hro := (by repeat (first | exact Go.X.ro_gb | refine Go.X.ro_tail ?_)))
      refine TA.tk 1 3 rfl rfl rfl (Val.nilCheck rfl) ?_ (hro := (by repeat (first | exact Go.X.ro_gb | refine Go.X.ro_tail ?_)))
      refine TA.tk 2 7 rfl rfl rfl (Val.fieldAddr rfl fl90_3 sz83 rfl) ?_ (hro := (by repeat (first | exact Go.X.ro_gb | refine Go.X.ro_tail ?_)))
      refine TA.tk 3 15 rfl rfl rfl (Val.load 0 rfl ag83 rfl rfl) ?_ (hro := (by repeat (first | exact Go.X.ro_gb | refine Go.X.ro_tail ?_)))
      refine TA.tk 4 31 rfl rfl rfl (Val.fieldAddr rfl fl39_1 sz3 rfl) ?_ (hro := (by repeat (first | exact Go.X.ro_gb | refine Go.X.ro_tail ?_)))
      refine TA.tk 5 63 rfl rfl rfl (Val.load 1 rfl ag3 rfl rfl) ?_ (hro := (by repeat (first | exact Go.X.ro_gb | refine Go.X.ro_tail ?_)))
      refine TA.tk 6 127 rfl rfl rfl (Val.move rfl) ?_ (hro := (by repeat (first | exact Go.X.ro_gb | refine Go.X.ro_tail ?_)))
      refine TA.tk 7 255 rfl rfl rfl (Val.nilCheck rfl) ?_ (hro := (by repeat (first | exact Go.X.ro_gb | refine Go.X.ro_tail ?_)))
      refine TA.tk 8 511 rfl rfl rfl (Val.fieldAddr rfl fl90_2 sz83 rfl) ?_ (hro := (by repeat (first | exact Go.X.ro_gb | refine Go.X.ro_tail ?_)))
      refine TA.tk 9 1023 rfl rfl rfl (Val.load 0 rfl ag83 rfl rfl) ?_ (hro := (by repeat (first | exact Go.X.ro_gb | refine Go.X.ro_tail ?_)))
      refine TA.tk 10 2047 rfl rfl rfl (Val.fieldAddr rfl fl39_1 sz3 rfl) ?_ (hro := (by repeat (first | exact Go.X.ro_gb | refine Go.X.ro_tail ?_)))
      refine TA.tk 11 4095 rfl rfl rfl (Val.load 1 rfl ag3 rfl rfl) ?_ (hro := (by repeat (first | exact Go.X.ro_gb | refine Go.X.ro_tail ?_)))
      refine TA.tk 12 8191 rfl rfl rfl (Val.move rfl) ?_ (hro := (by repeat (first | exact Go.X.ro_gb | refine Go.X.ro_tail ?_)))
      refine TA.tk 13 16383 rfl rfl rfl (Val.move rfl) ?_ (hro := (by repeat (first | exact Go.X.ro_gb | refine Go.X.ro_tail ?_)))
      refine TA.tk 14 32767 rfl rfl rfl (Val.nilCheck rfl) ?_ (hro := (by repeat (first | exact Go.X.ro_gb | refine Go.X.ro_tail ?_)))
      refine TA.tk 15 65535 rfl rfl rfl (Val.fieldAddr rfl fl90_0 sz26 rfl) ?_ (hro := (by repeat (first | exact Go.X.ro_gb | refine Go.X.ro_tail ?_)))
      refine TA.tk 16 131071 rfl rfl rfl (Val.fieldAddr rfl fl26_6 sz3 rfl) ?_ (hro := (by repeat (first | exact Go.X.ro_gb | refine Go.X.ro_tail ?_)))
      refine TA.tk 17 262143 rfl rfl rfl (Val.load 0 rfl ag3 rfl rfl) ?_ (hro := (by repeat (first | exact Go.X.ro_gb | refine Go.X.ro_tail ?_)))
      refine TA.one 18 (by kernel_rfl) ?_
      refine TO.dz 524287 (some 84) rfl rfl rfl rfl (Does.callF go31 rfl (pNew_fn c.window _ hwin)) ?_
      rintro _ _ ⟨pn, rfl, rfl⟩
      refine ⟨(by repeat (first | exact Go.X.ro_gb | refine Go.X.ro_tail ?_)), ?_⟩
      refine TA.tk 19 1048575 rfl rfl rfl (Val.indexAddr (i := k) (r := k) rfl rfl sl83 sz62 rfl (by omega) (by omega)) ?_ (hro := (by repeat (first | exact Go.X.ro_gb | refine Go.X.ro_tail ?_)))
      refine TA.one 20 (by kernel_rfl) ?_
      refine TO.dz 2097151 none rfl rfl rfl rfl (Does.storeR 5 rfl rfl rfl sz62 rfl rfl (by simp; omega) (row_set (f := pp) hko p)) ?_
      rintro _ _ ⟨rfl, rfl⟩
      refine ⟨(by repeat (first | exact Go.X.ro_gb | refine Go.X.ro_tail ?_)), ?_⟩
      refine TA.tk 21 4194303 rfl rfl rfl (Val.indexAddr (i := k) (r := k) rfl rfl sl83 sz62 rfl (by omega) (by omega)) ?_ (hro := (by repeat (first | exact Go.X.ro_gb | refine Go.X.ro_tail ?_)))
      refine TA.one 22 (by kernel_rfl) ?_
      refine TO.dz 8388607 none rfl rfl rfl rfl (Does.storeR 4 rfl rfl rfl sz62 rfl rfl (by simp; omega) (row_set (f := pp) hkn pn)) ?_
      rintro _ _ ⟨rfl, rfl⟩
      refine ⟨(by repeat (first | exact Go.X.ro_gb | refine Go.X.ro_tail ?_)), ?_⟩
      refine TA.done (by kernel_rfl) ?_
      refine AtX.then ?_
      refine TC.en (E' := [(4, _), (6, _), (9, _)]) ?_
      refine TC.sr ?_
      refine TL.v (Val.move rfl) ?_
      refine TL.v (Val.fieldAddr rfl fl39_3 sz2 rfl) ?_
      refine TL.v (Val.load 7 rfl ag2 rfl rfl) ?_
      refine TL.d (Does.callF go57 rfl (FnC.at0 (ip + 8) hrep (by rw [hsq]; exact pTake_next p c.window top bits rr _ hwin ⟨by omega, by omega⟩ (hsq ▸ hmay)))) ?_
      rintro _ _ ⟨rfl, rfl⟩
      refine TL.v (Val.assign rfl) ?_
      refine TL.nt ?_
      refine TC.en (E' := [(6, _)]) ?_
      refine TC.ret1 (fn := Tryz.f18) (fun _ _ h => h) rfl (RV.tmp rfl) (M' := (gateO gb c rb (some ⟨nb, 0, none⟩) N cn (some ⟨ob, 0, none⟩) N co ref :: ringO rb c.seed lb N c.grace (asked + 1) :: (lb, row 127 ((ones.set k ⟨gen, now⟩).flatMap On.cs)) :: (nb, row 62 ((nws.set k pn).map pp ++ sn)) :: (ob, row 62 ((ols.set k p).map pp ++ so)) :: (repO pn c.window 0 0 0 :: T.set ip (repO p c.window (top + 1) (nextB c.window bits) rr)))) (fun w h => ro_rt w h) ?_
      exact ⟨pn, rfl, rfl⟩
     ·
      (exfalso; omega)

end Go.Proofs.YtphoapajlcaoeaaGreat
