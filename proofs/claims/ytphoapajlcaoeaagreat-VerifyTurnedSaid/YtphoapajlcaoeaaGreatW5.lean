/- Texts put together: A76, A77, A78, A79, A80. -/
import Derived.Test.YtphoapajlcaoeaaGreatW4
import Derived.Test.YtphoapajlcaoeaaGreatG2
import Derived.Test.YtphoapajlcaoeaaGreatG1
/- walks -/
set_option linter.unusedVariables false
set_option linter.unusedSimpArgs false
set_option maxRecDepth 100000
set_option maxHeartbeats 4000000
namespace Go.Proofs.YtphoapajlcaoeaaGreat
open Go Go.X
theorem rKey_yes (b lg ls i : Nat) (s : Int) (l : List On) (gr : Int) (M : Hp) (hi : M[i]? = some (rrO b s gr lg ls l.length)) (hG : Rd M ⟨lg, 0, none⟩ (gens l)) (hS : Rd M ⟨ls, 0, none⟩ (sinces l)) (k : Nat) (x : On) (hx : l[k]? = some x) (gen now : Int) (hg : 0 ≤ x.gen ∧ x.gen ≤ 1000000) (hsi : 0 ≤ x.since ∧ x.since ≤ 1099511627776) (hgr : 0 ≤ gr ∧ gr ≤ 1000) (hok : okK x gen now gr = true) : FnC Tryz.prog 77 #[.pointer (some ⟨b, 0, none⟩), .int .i64 (k : Nat), .int .i64 gen, .int .i64 now] M (fun v M' => v = .tuple #[.agg #[.int .u64 (macKey s (k : Nat) gen).a, .int .u64 (macKey s (k : Nat) gen).b], .int .i64 0] ∧ M = M') := by
 have h := rKey_fn b lg ls i s l gr M hi hG hS k x hx gen now hg hsi hgr
 rw [if_pos hok, if_pos hok] at h
 exact h
theorem rKey_no (b lg ls i : Nat) (s : Int) (l : List On) (gr : Int) (M : Hp) (hi : M[i]? = some (rrO b s gr lg ls l.length)) (hG : Rd M ⟨lg, 0, none⟩ (gens l)) (hS : Rd M ⟨ls, 0, none⟩ (sinces l)) (k : Nat) (x : On) (hx : l[k]? = some x) (gen now : Int) (hg : 0 ≤ x.gen ∧ x.gen ≤ 1000000) (hsi : 0 ≤ x.since ∧ x.since ≤ 1099511627776) (hgr : 0 ≤ gr ∧ gr ≤ 1000) (hok : ¬ okK x gen now gr = true) : FnC Tryz.prog 77 #[.pointer (some ⟨b, 0, none⟩), .int .i64 (k : Nat), .int .i64 gen, .int .i64 now] M (fun v M' => v = .tuple #[.agg #[.int .u64 0, .int .u64 0], .int .i64 4] ∧ M = M') := by
 have h := rKey_fn b lg ls i s l gr M hi hG hS k x hx gen now hg hsi hgr
 rw [if_neg hok, if_neg hok] at h
 exact h

/-- (*quorumite/quorumiteref5.Gate).key -/
theorem rgKey_yes (gb rb lg ls nb cn ob co : Nat) (sn so : List Value) (c : Cf) (N : Nat) (ones : List On) (nws ols : List Nat) (T : Hp) (hN : c.n = N) (h1 : ones.length = N) (h2 : nws.length = N) (h3 : ols.length = N) (hgr : 1 ≤ c.grace ∧ c.grace ≤ 100) (k : Nat) (x : On) (hx : ones[k]? = some x) (hxb : 0 ≤ x.gen ∧ x.gen ≤ 60000) (hxs : 0 ≤ x.since ∧ x.since ≤ 1099511627776) (kind gen sq ep va me : Int) (hgen : -1000000 ≤ gen ∧ gen ≤ 1000000) (hk2 : kind = 2 → gen - 1 = x.gen) (now : Int) (p p2 : Nat) (hp : nws[k]? = some p) (hp2 : ols[k]? = some p2) (hok : okK x (sgen kind gen) now c.grace = true) : FnC Tryz.prog 41 #[.pointer (some ⟨gb, 0, none⟩), .agg #[.int .i64 kind, .int .i64 ((k : Nat) : Int), .int .i64 gen, .int .i64 sq, .int .i64 ep, .int .i64 va, .int .i64 me], .int .i64 now] (rgO gb c rb (some ⟨nb, 0, none⟩) N cn (some ⟨ob, 0, none⟩) N co :: rrO rb c.seed c.grace lg ls N :: (lg, row 3 (gens ones)) :: (ls, row 2 (sinces ones)) :: (nb, row 76 (nws.map pp ++ sn)) :: (ob, row 76 (ols.map pp ++ so)) :: T) (fun v M' => v = .tuple #[.agg #[.int .u64 (macKey c.seed (k : Nat) (sgen kind gen)).a, .int .u64 (macKey c.seed (k : Nat) (sgen kind gen)).b], .pointer (some ⟨(if sgen kind gen = x.gen then p else p2), 0, none⟩), .int .i64 0] ∧ (rgO gb c rb (some ⟨nb, 0, none⟩) N cn (some ⟨ob, 0, none⟩) N co :: rrO rb c.seed c.grace lg ls N :: (lg, row 3 (gens ones)) :: (ls, row 2 (sinces ones)) :: (nb, row 76 (nws.map pp ++ sn)) :: (ob, row 76 (ols.map pp ++ so)) :: T) = M') := by
 have hkN : k < N := by rw [← h1]; exact (List.getElem?_eq_some_iff.1 hx).1
 have hsg : -1000000 ≤ sgen kind gen ∧ sgen kind gen ≤ 1000000 := by unfold sgen; split <;> omega
 refine FnC.intro Tryz.func41 rfl 80 rfl (by simp) (fun z => ?_)
 refine TC.en (E' := [(0, _), (1, _), (2, _)]) ?_
 refine TC.sr ?_
 refine TL.d (Does.box rfl rfl) ?_
 rintro _ _ ⟨b1, rfl, rfl⟩
 refine TL.d (Does.alloc ze57 rfl) ?_
 rintro _ _ ⟨b2, rfl, rfl⟩
 refine TL.v (Val.assign rfl) ?_
 refine TL.v (Val.assign rfl) ?_
 refine TL.nt ?_
 refine TC.sr ?_
 refine TL.v (Val.loadAgg 1 rfl ag39 sz39 rfl rfl rfl) ?_
 refine TL.d (Does.callF go76 rfl (rsealed_fn k kind gen sq ep va me _ hgen)) ?_
 rintro _ _ ⟨rfl, rfl⟩
 refine TL.v (Val.assign rfl) ?_
 refine TL.nt ?_
 refine TC.seq ?_
 refine TC.seq ?_
 refine TC.drawLM mixed 18 ?_
 refine TA.tk 0 1 rfl rfl rfl (Val.fieldAddr rfl fl39_0 sz3 rfl) ?_
 refine TA.tk 1 3 rfl rfl rfl (Val.load 1 rfl ag3 rfl rfl) ?_
 refine TA.tk 2 7 rfl rfl rfl (Val.eqlI rfl rfl) ?_
 refine TA.tk 3 15 rfl rfl rfl (Val.move rfl) ?_
 refine TA.gen (fun g4 hg4 => ?_)
 refine TA.gtk 4 31 rfl rfl rfl rfl rfl (fun hg => by subst hg; exact (Val.move rfl)) ?_
 refine TA.gtk 5 63 rfl rfl rfl rfl rfl (fun hg => by subst hg; exact (Val.move rfl)) ?_
 refine TA.gtk 6 127 rfl rfl rfl rfl rfl (fun hg => by subst hg; exact (Val.nilCheck rfl)) ?_
 refine TA.gtk 7 255 rfl rfl rfl rfl rfl (fun hg => by subst hg; exact (Val.fieldAddr rfl fl71_1 sz68 rfl)) ?_
 refine TA.gtk 8 511 rfl rfl rfl rfl rfl (fun hg => by subst hg; exact (Val.load 2 rfl ag68 rfl rfl)) ?_
 refine TA.gtk 9 1023 rfl rfl rfl rfl rfl (fun hg => by subst hg; exact (Val.nilCheck rfl)) ?_
 refine TA.gtk 10 2047 rfl rfl rfl rfl rfl (fun hg => by subst hg; exact (Val.fieldAddr rfl fl67_2 sz22 rfl)) ?_
 refine TA.gtk 11 4095 rfl rfl rfl rfl rfl (fun hg => by subst hg; exact (Val.load 3 rfl ag22 rfl rfl)) ?_
 refine TA.gtk 12 8191 rfl rfl rfl rfl rfl (fun hg => by subst hg; exact (Val.fieldAddr rfl fl39_1 sz3 rfl)) ?_
 refine TA.gtk 13 16383 rfl rfl rfl rfl rfl (fun hg => by subst hg; exact (Val.load 1 rfl ag3 rfl rfl)) ?_
 refine TA.gtk 14 32767 rfl rfl rfl rfl rfl (fun hg => by subst hg; exact (Val.indexAddr (i := k) (r := k) rfl rfl sl22 sz3 rfl hkN (by omega))) ?_
 refine TA.gtk 15 65535 rfl rfl rfl rfl rfl (fun hg => by subst hg; exact (Val.loadRd (o := 0) (j := k) (v := .int .i64 x.gen) rfl ag3 (rd_rowA (i := 4) rfl) (by omega) (map_get hx))) ?_
 refine TA.gtk 16 131071 rfl rfl rfl rfl rfl (fun hg => by subst hg; exact (Val.neqI rfl rfl)) ?_
 refine TA.tk 17 262143 rfl rfl rfl (Val.pickAnd rfl rfl rfl) ?_
 refine TA.done (by kernel_rfl) ?_
 refine AtX.then ?_
 refine TC.en (E' := [(0, _), (2, _), (4, _), (6, _), (7, _), (8, _), (9, _), (31, _)]) ?_
 refine TC.cond rfl (fun c1 => ?_) (fun c1 => ?_)
 ·
  (exfalso; unfold sgen at *; grind)
 ·
  refine TC.skip ?_
  refine AtX.then ?_
  refine TC.join (ι := Nat) (fun x => [(0, .pointer (some ⟨gb, 0, none⟩)), (4, .pointer (some ⟨b1, 0, none⟩)), (6, .pointer (some ⟨b2, 0, none⟩)), (7, .pointer none), (8, .int .i64 0), (9, .int .i64 (sgen kind gen)), (10, .pointer (some ⟨x, 0, none⟩)), (11, .int .i64 0)]) (fun x => (x, .cells #[.int .u64 (macKey c.seed (k : Nat) (sgen kind gen)).a, .int .u64 (macKey c.seed (k : Nat) (sgen kind gen)).b] 57 (0, 0)) :: (b2, .cells #[.int .u64 0, .int .u64 0] 57 (0, 0)) :: (b1, .cells #[.int .i64 kind, .int .i64 ((k : Nat) : Int), .int .i64 gen, .int .i64 sq, .int .i64 ep, .int .i64 va, .int .i64 me] 39 (0, 0)) :: (rgO gb c rb (some ⟨nb, 0, none⟩) N cn (some ⟨ob, 0, none⟩) N co :: rrO rb c.seed c.grace lg ls N :: (lg, row 3 (gens ones)) :: (ls, row 2 (sinces ones)) :: (nb, row 76 (nws.map pp ++ sn)) :: (ob, row 76 (ols.map pp ++ so)) :: T)) (fun _ => True) ?_ ?_
  ·
   refine TC.drawL ((b2, .cells #[.int .u64 0, .int .u64 0] 57 (0, 0)) :: (b1, .cells #[.int .i64 kind, .int .i64 ((k : Nat) : Int), .int .i64 gen, .int .i64 sq, .int .i64 ep, .int .i64 va, .int .i64 me] 39 (0, 0)) :: (rgO gb c rb (some ⟨nb, 0, none⟩) N cn (some ⟨ob, 0, none⟩) N co :: rrO rb c.seed c.grace lg ls N :: (lg, row 3 (gens ones)) :: (ls, row 2 (sinces ones)) :: (nb, row 76 (nws.map pp ++ sn)) :: (ob, row 76 (ols.map pp ++ so)) :: T)) mixed 15 ?_
   refine TA.tk 0 1 rfl rfl rfl (Val.move rfl) ?_ (hro := ro_s)
   refine TA.tk 1 3 rfl rfl rfl (Val.nilCheck rfl) ?_ (hro := ro_s)
   refine TA.tk 2 7 rfl rfl rfl (Val.fieldAddr rfl fl71_1 sz68 rfl) ?_ (hro := ro_s)
   refine TA.tk 3 15 rfl rfl rfl (Val.load 2 rfl ag68 rfl rfl) ?_ (hro := ro_s)
   refine TA.tk 4 31 rfl rfl rfl (Val.fieldAddr rfl fl39_1 sz3 rfl) ?_ (hro := ro_s)
   refine TA.tk 5 63 rfl rfl rfl (Val.load 1 rfl ag3 rfl rfl) ?_ (hro := ro_s)
   refine TA.tk 6 127 rfl rfl rfl (Val.move rfl) ?_ (hro := ro_s)
   refine TA.tk 7 255 rfl rfl rfl (Val.move rfl) ?_ (hro := ro_s)
   refine TA.two 8 12 (by kernel_rfl) ?_ ?_
   ·
    refine TO.dz 511 (some 42) rfl rfl rfl rfl (Does.callF go77 rfl (rKey_yes rb lg ls 3 c.seed ones c.grace _ (by rw [h1]; rfl) (rd_rowA (i := 4) rfl) (rd_rowA (i := 5) rfl) k x hx (sgen kind gen) now ⟨hxb.1, by omega⟩ hxs ⟨by omega, by omega⟩ hok)) ?_
    rintro _ _ ⟨rfl, rfl⟩
    refine ⟨ro_s, ?_⟩
    refine TA.tk 9 1023 rfl rfl rfl (Val.move rfl) ?_ (hro := ro_s)
    refine TA.tk 10 2047 rfl rfl rfl (Val.extract rfl rfl) ?_ (hro := ro_s)
    refine TA.tk 11 4095 rfl rfl rfl (Val.extract rfl rfl) ?_ (hro := ro_s)
    refine TA.one 12 (by kernel_rfl) ?_
    refine TO.dz 8191 (some 10) rfl rfl rfl rfl (Does.alloc ze57 rfl) ?_
    rintro _ _ ⟨b3, rfl, rfl⟩
    refine ⟨ro_s, ?_⟩
    refine TA.one 13 (by kernel_rfl) ?_
    refine TO.dz 16383 none rfl rfl rfl rfl (Does.store (i := 0) rfl rfl rfl sz57 rfl rfl (by first | exact Nat.le_of_ble_eq_true rfl | decide | omega) rfl rfl) ?_
    rintro _ _ ⟨rfl, rfl⟩
    refine ⟨ro_s, ?_⟩
    refine TA.tk 14 32767 rfl rfl rfl (Val.assign rfl) ?_ (hro := ro_s)
    refine TA.done (by kernel_rfl) ?_
    refine AtX.join b3 ?_ (Sub.cons rfl (Sub.cons rfl (Sub.cons rfl (Sub.cons rfl (Sub.cons rfl (Sub.cons rfl (Sub.cons rfl (Sub.cons rfl (Sub.nil _))))))))) (fun w h => h)
    trivial
   ·
    refine TO.dz 4351 (some 10) rfl rfl rfl rfl (Does.alloc ze57 rfl) ?_
    rintro _ _ ⟨b3, rfl, rfl⟩
    refine ⟨ro_s, ?_⟩
    refine TA.one 8 (by kernel_rfl) ?_
    refine TO.dz 4607 (some 42) rfl rfl rfl rfl (Does.callF go77 rfl (rKey_yes rb lg ls 4 c.seed ones c.grace _ (by rw [h1]; rfl) (rd_rowA (i := 5) rfl) (rd_rowA (i := 6) rfl) k x hx (sgen kind gen) now ⟨hxb.1, by omega⟩ hxs ⟨by omega, by omega⟩ hok)) ?_
    rintro _ _ ⟨rfl, rfl⟩
    refine ⟨ro_s, ?_⟩
    refine TA.tk 9 5119 rfl rfl rfl (Val.move rfl) ?_ (hro := ro_s)
    refine TA.tk 10 6143 rfl rfl rfl (Val.extract rfl rfl) ?_ (hro := ro_s)
    refine TA.tk 11 8191 rfl rfl rfl (Val.extract rfl rfl) ?_ (hro := ro_s)
    refine TA.one 13 (by kernel_rfl) ?_
    refine TO.dz 16383 none rfl rfl rfl rfl (Does.store (i := 0) rfl rfl rfl sz57 rfl rfl (by first | exact Nat.le_of_ble_eq_true rfl | decide | omega) rfl rfl) ?_
    rintro _ _ ⟨rfl, rfl⟩
    refine ⟨ro_s, ?_⟩
    refine TA.tk 14 32767 rfl rfl rfl (Val.assign rfl) ?_ (hro := ro_s)
    refine TA.done (by kernel_rfl) ?_
    refine AtX.join b3 ?_ (Sub.cons rfl (Sub.cons rfl (Sub.cons rfl (Sub.cons rfl (Sub.cons rfl (Sub.cons rfl (Sub.cons rfl (Sub.cons rfl (Sub.nil _))))))))) (fun w h => h)
    trivial
  ·
   intro b3 _
   refine TC.seq ?_
   refine TC.sr ?_
   refine TL.v (Val.move rfl) ?_
   refine TL.v (Val.neqI rfl rfl) ?_
   refine TL.nt ?_
   refine TC.condP rfl (fun c2 => ?_) (fun c2 => ?_)
   ·
    exact absurd rfl c2
   ·
    refine TC.skip ?_
    refine AtX.then ?_
    refine TC.seq ?_
    refine TC.seq ?_
    refine TC.drawLM mixed 13 ?_
    refine TA.tk 0 1 rfl rfl rfl (Val.move rfl) ?_
    refine TA.tk 1 3 rfl rfl rfl (Val.move rfl) ?_
    refine TA.tk 2 7 rfl rfl rfl (Val.nilCheck rfl) ?_
    refine TA.tk 3 15 rfl rfl rfl (Val.fieldAddr rfl fl71_1 sz68 rfl) ?_
    refine TA.tk 4 31 rfl rfl rfl (Val.load 3 rfl ag68 rfl rfl) ?_
    refine TA.tk 5 63 rfl rfl rfl (Val.nilCheck rfl) ?_
    refine TA.tk 6 127 rfl rfl rfl (Val.fieldAddr rfl fl67_2 sz22 rfl) ?_
    refine TA.tk 7 255 rfl rfl rfl (Val.load 4 rfl ag22 rfl rfl) ?_
    refine TA.tk 8 511 rfl rfl rfl (Val.fieldAddr rfl fl39_1 sz3 rfl) ?_
    refine TA.tk 9 1023 rfl rfl rfl (Val.load 2 rfl ag3 rfl rfl) ?_
    refine TA.tk 10 2047 rfl rfl rfl (Val.indexAddr (i := k) (r := k) rfl rfl sl22 sz3 rfl hkN (by omega)) ?_
    refine TA.tk 11 4095 rfl rfl rfl (Val.loadRd (o := 0) (j := k) (v := .int .i64 x.gen) rfl ag3 (rd_rowA (i := 5) rfl) (by omega) (map_get hx)) ?_
    refine TA.tk 12 8191 rfl rfl rfl (Val.eqlI rfl rfl) ?_
    refine TA.done (by kernel_rfl) ?_
    refine AtX.then ?_
    refine TC.en (E' := [(0, _), (4, _), (6, _), (7, _), (8, _), (10, _), (61, _)]) ?_
    refine TC.condP rfl (fun c3 => ?_) (fun c3 => ?_)
    ·
     refine TC.seq ?_
     refine TC.drawL ((b3, .cells #[.int .u64 (macKey c.seed (k : Nat) (sgen kind gen)).a, .int .u64 (macKey c.seed (k : Nat) (sgen kind gen)).b] 57 (0, 0)) :: (b1, .cells #[.int .i64 kind, .int .i64 ((k : Nat) : Int), .int .i64 gen, .int .i64 sq, .int .i64 ep, .int .i64 va, .int .i64 me] 39 (0, 0)) :: (rgO gb c rb (some ⟨nb, 0, none⟩) N cn (some ⟨ob, 0, none⟩) N co :: rrO rb c.seed c.grace lg ls N :: (lg, row 3 (gens ones)) :: (ls, row 2 (sinces ones)) :: (nb, row 76 (nws.map pp ++ sn)) :: (ob, row 76 (ols.map pp ++ so)) :: T)) mixed 12 ?_
     refine TA.tk 0 1 rfl rfl rfl (Val.loadAgg 0 rfl ag57 sz57 rfl rfl rfl) ?_ (hro := ro_s)
     refine TA.tk 1 3 rfl rfl rfl (Val.move rfl) ?_ (hro := ro_s)
     refine TA.tk 2 7 rfl rfl rfl (Val.nilCheck rfl) ?_ (hro := ro_s)
     refine TA.tk 3 15 rfl rfl rfl (Val.fieldAddr rfl fl71_2 sz69 rfl) ?_ (hro := ro_s)
     refine TA.tk 4 31 rfl rfl rfl (Val.load 2 rfl ag69 rfl rfl) ?_ (hro := ro_s)
     refine TA.tk 5 63 rfl rfl rfl (Val.fieldAddr rfl fl39_1 sz3 rfl) ?_ (hro := ro_s)
     refine TA.tk 6 127 rfl rfl rfl (Val.load 1 rfl ag3 rfl rfl) ?_ (hro := ro_s)
     refine TA.tk 7 255 rfl rfl rfl (Val.indexAddr (i := k) (r := k) rfl rfl sl69 sz76 rfl hkN (by omega)) ?_ (hro := ro_s)
     refine TA.tk 8 511 rfl rfl rfl (Val.loadRd (o := 0) (j := k) (v := pp p) rfl ag76 (rd_row0 (i := 6) (l := nws.map pp) rfl) (by omega) (map_get hp)) ?_ (hro := ro_s)
     refine TA.one 9 (by kernel_rfl) ?_
     refine TO.dz 1023 none rfl rfl rfl rfl (Does.store (i := 1) rfl rfl rfl sz57 rfl rfl (by first | exact Nat.le_of_ble_eq_true rfl | decide | omega) rfl rfl) ?_
     rintro _ _ ⟨rfl, rfl⟩
     refine ⟨ro_s, ?_⟩
     refine TA.tk 10 2047 rfl rfl rfl (Val.assign rfl) ?_ (hro := ro_s)
     refine TA.tk 11 4095 rfl rfl rfl (Val.assign rfl) ?_ (hro := ro_s)
     refine TA.done (by kernel_rfl) ?_
     refine AtX.then ?_
     refine TC.en (E' := [(0, _), (4, _), (6, _), (7, _), (8, _), (10, _)]) ?_
     refine TC.ret3 (fn := Tryz.f41) (fun _ _ h => h) rfl (RV.agg (i := 1) rfl ag57 sz57 rfl rfl rfl) (RV.tmp rfl) (RV.tmp rfl) (M' := (rgO gb c rb (some ⟨nb, 0, none⟩) N cn (some ⟨ob, 0, none⟩) N co :: rrO rb c.seed c.grace lg ls N :: (lg, row 3 (gens ones)) :: (ls, row 2 (sinces ones)) :: (nb, row 76 (nws.map pp ++ sn)) :: (ob, row 76 (ols.map pp ++ so)) :: T)) (fun w h => h.drop.drop.drop) ?_
     refine ⟨?_, rfl⟩
     first | rw [if_pos (by assumption)] | rw [if_neg (by assumption)]
     rfl
    ·
     refine TC.skip ?_
     refine AtX.then ?_
     refine TC.seq ?_
     refine TC.drawL ((b3, .cells #[.int .u64 (macKey c.seed (k : Nat) (sgen kind gen)).a, .int .u64 (macKey c.seed (k : Nat) (sgen kind gen)).b] 57 (0, 0)) :: (b1, .cells #[.int .i64 kind, .int .i64 ((k : Nat) : Int), .int .i64 gen, .int .i64 sq, .int .i64 ep, .int .i64 va, .int .i64 me] 39 (0, 0)) :: (rgO gb c rb (some ⟨nb, 0, none⟩) N cn (some ⟨ob, 0, none⟩) N co :: rrO rb c.seed c.grace lg ls N :: (lg, row 3 (gens ones)) :: (ls, row 2 (sinces ones)) :: (nb, row 76 (nws.map pp ++ sn)) :: (ob, row 76 (ols.map pp ++ so)) :: T)) mixed 12 ?_
     refine TA.tk 0 1 rfl rfl rfl (Val.loadAgg 0 rfl ag57 sz57 rfl rfl rfl) ?_ (hro := ro_s)
     refine TA.tk 1 3 rfl rfl rfl (Val.move rfl) ?_ (hro := ro_s)
     refine TA.tk 2 7 rfl rfl rfl (Val.nilCheck rfl) ?_ (hro := ro_s)
     refine TA.tk 3 15 rfl rfl rfl (Val.fieldAddr rfl fl71_3 sz69 rfl) ?_ (hro := ro_s)
     refine TA.tk 4 31 rfl rfl rfl (Val.load 2 rfl ag69 rfl rfl) ?_ (hro := ro_s)
     refine TA.tk 5 63 rfl rfl rfl (Val.fieldAddr rfl fl39_1 sz3 rfl) ?_ (hro := ro_s)
     refine TA.tk 6 127 rfl rfl rfl (Val.load 1 rfl ag3 rfl rfl) ?_ (hro := ro_s)
     refine TA.tk 7 255 rfl rfl rfl (Val.indexAddr (i := k) (r := k) rfl rfl sl69 sz76 rfl hkN (by omega)) ?_ (hro := ro_s)
     refine TA.tk 8 511 rfl rfl rfl (Val.loadRd (o := 0) (j := k) (v := pp p2) rfl ag76 (rd_row0 (i := 7) (l := ols.map pp) rfl) (by omega) (map_get hp2)) ?_ (hro := ro_s)
     refine TA.one 9 (by kernel_rfl) ?_
     refine TO.dz 1023 none rfl rfl rfl rfl (Does.store (i := 1) rfl rfl rfl sz57 rfl rfl (by first | exact Nat.le_of_ble_eq_true rfl | decide | omega) rfl rfl) ?_
     rintro _ _ ⟨rfl, rfl⟩
     refine ⟨ro_s, ?_⟩
     refine TA.tk 10 2047 rfl rfl rfl (Val.assign rfl) ?_ (hro := ro_s)
     refine TA.tk 11 4095 rfl rfl rfl (Val.assign rfl) ?_ (hro := ro_s)
     refine TA.done (by kernel_rfl) ?_
     refine AtX.then ?_
     refine TC.en (E' := [(6, _), (7, _), (8, _)]) ?_
     refine TC.ret3 (fn := Tryz.f41) (fun _ _ h => h) rfl (RV.agg (i := 1) rfl ag57 sz57 rfl rfl rfl) (RV.tmp rfl) (RV.tmp rfl) (M' := (rgO gb c rb (some ⟨nb, 0, none⟩) N cn (some ⟨ob, 0, none⟩) N co :: rrO rb c.seed c.grace lg ls N :: (lg, row 3 (gens ones)) :: (ls, row 2 (sinces ones)) :: (nb, row 76 (nws.map pp ++ sn)) :: (ob, row 76 (ols.map pp ++ so)) :: T)) (fun w h => h.drop.drop.drop) ?_
     refine ⟨?_, rfl⟩
     first | rw [if_pos (by assumption)] | rw [if_neg (by assumption)]
     rfl

/-- (*quorumite/quorumiteref5.Gate).key -/
theorem rgKey_no (gb rb lg ls nb cn ob co : Nat) (sn so : List Value) (c : Cf) (N : Nat) (ones : List On) (nws ols : List Nat) (T : Hp) (hN : c.n = N) (h1 : ones.length = N) (h2 : nws.length = N) (h3 : ols.length = N) (hgr : 1 ≤ c.grace ∧ c.grace ≤ 100) (k : Nat) (x : On) (hx : ones[k]? = some x) (hxb : 0 ≤ x.gen ∧ x.gen ≤ 60000) (hxs : 0 ≤ x.since ∧ x.since ≤ 1099511627776) (kind gen sq ep va me : Int) (hgen : -1000000 ≤ gen ∧ gen ≤ 1000000) (hk2 : kind = 2 → gen - 1 = x.gen) (now : Int) (hok : ¬ okK x (sgen kind gen) now c.grace = true) : FnC Tryz.prog 41 #[.pointer (some ⟨gb, 0, none⟩), .agg #[.int .i64 kind, .int .i64 ((k : Nat) : Int), .int .i64 gen, .int .i64 sq, .int .i64 ep, .int .i64 va, .int .i64 me], .int .i64 now] (rgO gb c rb (some ⟨nb, 0, none⟩) N cn (some ⟨ob, 0, none⟩) N co :: rrO rb c.seed c.grace lg ls N :: (lg, row 3 (gens ones)) :: (ls, row 2 (sinces ones)) :: (nb, row 76 (nws.map pp ++ sn)) :: (ob, row 76 (ols.map pp ++ so)) :: T) (fun v M' => v = .tuple #[.agg #[.int .u64 0, .int .u64 0], .pointer none, .int .i64 4] ∧ (rgO gb c rb (some ⟨nb, 0, none⟩) N cn (some ⟨ob, 0, none⟩) N co :: rrO rb c.seed c.grace lg ls N :: (lg, row 3 (gens ones)) :: (ls, row 2 (sinces ones)) :: (nb, row 76 (nws.map pp ++ sn)) :: (ob, row 76 (ols.map pp ++ so)) :: T) = M') := by
 have hkN : k < N := by rw [← h1]; exact (List.getElem?_eq_some_iff.1 hx).1
 have hsg : -1000000 ≤ sgen kind gen ∧ sgen kind gen ≤ 1000000 := by unfold sgen; split <;> omega
 refine FnC.intro Tryz.func41 rfl 80 rfl (by simp) (fun z => ?_)
 refine TC.en (E' := [(0, _), (1, _), (2, _)]) ?_
 refine TC.sr ?_
 refine TL.d (Does.box rfl rfl) ?_
 rintro _ _ ⟨b1, rfl, rfl⟩
 refine TL.d (Does.alloc ze57 rfl) ?_
 rintro _ _ ⟨b2, rfl, rfl⟩
 refine TL.v (Val.assign rfl) ?_
 refine TL.v (Val.assign rfl) ?_
 refine TL.nt ?_
 refine TC.sr ?_
 refine TL.v (Val.loadAgg 1 rfl ag39 sz39 rfl rfl rfl) ?_
 refine TL.d (Does.callF go76 rfl (rsealed_fn k kind gen sq ep va me _ hgen)) ?_
 rintro _ _ ⟨rfl, rfl⟩
 refine TL.v (Val.assign rfl) ?_
 refine TL.nt ?_
 refine TC.seq ?_
 refine TC.seq ?_
 refine TC.drawLM mixed 18 ?_
 refine TA.tk 0 1 rfl rfl rfl (Val.fieldAddr rfl fl39_0 sz3 rfl) ?_
 refine TA.tk 1 3 rfl rfl rfl (Val.load 1 rfl ag3 rfl rfl) ?_
 refine TA.tk 2 7 rfl rfl rfl (Val.eqlI rfl rfl) ?_
 refine TA.tk 3 15 rfl rfl rfl (Val.move rfl) ?_
 refine TA.gen (fun g4 hg4 => ?_)
 refine TA.gtk 4 31 rfl rfl rfl rfl rfl (fun hg => by subst hg; exact (Val.move rfl)) ?_
 refine TA.gtk 5 63 rfl rfl rfl rfl rfl (fun hg => by subst hg; exact (Val.move rfl)) ?_
 refine TA.gtk 6 127 rfl rfl rfl rfl rfl (fun hg => by subst hg; exact (Val.nilCheck rfl)) ?_
 refine TA.gtk 7 255 rfl rfl rfl rfl rfl (fun hg => by subst hg; exact (Val.fieldAddr rfl fl71_1 sz68 rfl)) ?_
 refine TA.gtk 8 511 rfl rfl rfl rfl rfl (fun hg => by subst hg; exact (Val.load 2 rfl ag68 rfl rfl)) ?_
 refine TA.gtk 9 1023 rfl rfl rfl rfl rfl (fun hg => by subst hg; exact (Val.nilCheck rfl)) ?_
 refine TA.gtk 10 2047 rfl rfl rfl rfl rfl (fun hg => by subst hg; exact (Val.fieldAddr rfl fl67_2 sz22 rfl)) ?_
 refine TA.gtk 11 4095 rfl rfl rfl rfl rfl (fun hg => by subst hg; exact (Val.load 3 rfl ag22 rfl rfl)) ?_
 refine TA.gtk 12 8191 rfl rfl rfl rfl rfl (fun hg => by subst hg; exact (Val.fieldAddr rfl fl39_1 sz3 rfl)) ?_
 refine TA.gtk 13 16383 rfl rfl rfl rfl rfl (fun hg => by subst hg; exact (Val.load 1 rfl ag3 rfl rfl)) ?_
 refine TA.gtk 14 32767 rfl rfl rfl rfl rfl (fun hg => by subst hg; exact (Val.indexAddr (i := k) (r := k) rfl rfl sl22 sz3 rfl hkN (by omega))) ?_
 refine TA.gtk 15 65535 rfl rfl rfl rfl rfl (fun hg => by subst hg; exact (Val.loadRd (o := 0) (j := k) (v := .int .i64 x.gen) rfl ag3 (rd_rowA (i := 4) rfl) (by omega) (map_get hx))) ?_
 refine TA.gtk 16 131071 rfl rfl rfl rfl rfl (fun hg => by subst hg; exact (Val.neqI rfl rfl)) ?_
 refine TA.tk 17 262143 rfl rfl rfl (Val.pickAnd rfl rfl rfl) ?_
 refine TA.done (by kernel_rfl) ?_
 refine AtX.then ?_
 refine TC.en (E' := [(0, _), (2, _), (4, _), (6, _), (7, _), (8, _), (9, _), (31, _)]) ?_
 refine TC.cond rfl (fun c1 => ?_) (fun c1 => ?_)
 ·
  (exfalso; unfold sgen at *; grind)
 ·
  refine TC.skip ?_
  refine AtX.then ?_
  refine TC.join (ι := Nat) (fun x => [(0, .pointer (some ⟨gb, 0, none⟩)), (4, .pointer (some ⟨b1, 0, none⟩)), (6, .pointer (some ⟨b2, 0, none⟩)), (7, .pointer none), (8, .int .i64 0), (9, .int .i64 (sgen kind gen)), (10, .pointer (some ⟨x, 0, none⟩)), (11, .int .i64 4)]) (fun x => (x, .cells #[.int .u64 0, .int .u64 0] 57 (0, 0)) :: (b2, .cells #[.int .u64 0, .int .u64 0] 57 (0, 0)) :: (b1, .cells #[.int .i64 kind, .int .i64 ((k : Nat) : Int), .int .i64 gen, .int .i64 sq, .int .i64 ep, .int .i64 va, .int .i64 me] 39 (0, 0)) :: (rgO gb c rb (some ⟨nb, 0, none⟩) N cn (some ⟨ob, 0, none⟩) N co :: rrO rb c.seed c.grace lg ls N :: (lg, row 3 (gens ones)) :: (ls, row 2 (sinces ones)) :: (nb, row 76 (nws.map pp ++ sn)) :: (ob, row 76 (ols.map pp ++ so)) :: T)) (fun _ => True) ?_ ?_
  ·
   refine TC.drawL ((b2, .cells #[.int .u64 0, .int .u64 0] 57 (0, 0)) :: (b1, .cells #[.int .i64 kind, .int .i64 ((k : Nat) : Int), .int .i64 gen, .int .i64 sq, .int .i64 ep, .int .i64 va, .int .i64 me] 39 (0, 0)) :: (rgO gb c rb (some ⟨nb, 0, none⟩) N cn (some ⟨ob, 0, none⟩) N co :: rrO rb c.seed c.grace lg ls N :: (lg, row 3 (gens ones)) :: (ls, row 2 (sinces ones)) :: (nb, row 76 (nws.map pp ++ sn)) :: (ob, row 76 (ols.map pp ++ so)) :: T)) mixed 15 ?_
   refine TA.tk 0 1 rfl rfl rfl (Val.move rfl) ?_ (hro := ro_s)
   refine TA.tk 1 3 rfl rfl rfl (Val.nilCheck rfl) ?_ (hro := ro_s)
   refine TA.tk 2 7 rfl rfl rfl (Val.fieldAddr rfl fl71_1 sz68 rfl) ?_ (hro := ro_s)
   refine TA.tk 3 15 rfl rfl rfl (Val.load 2 rfl ag68 rfl rfl) ?_ (hro := ro_s)
   refine TA.tk 4 31 rfl rfl rfl (Val.fieldAddr rfl fl39_1 sz3 rfl) ?_ (hro := ro_s)
   refine TA.tk 5 63 rfl rfl rfl (Val.load 1 rfl ag3 rfl rfl) ?_ (hro := ro_s)
   refine TA.tk 6 127 rfl rfl rfl (Val.move rfl) ?_ (hro := ro_s)
   refine TA.tk 7 255 rfl rfl rfl (Val.move rfl) ?_ (hro := ro_s)
   refine TA.two 8 12 (by kernel_rfl) ?_ ?_
   ·
    refine TO.dz 511 (some 42) rfl rfl rfl rfl (Does.callF go77 rfl (rKey_no rb lg ls 3 c.seed ones c.grace _ (by rw [h1]; rfl) (rd_rowA (i := 4) rfl) (rd_rowA (i := 5) rfl) k x hx (sgen kind gen) now ⟨hxb.1, by omega⟩ hxs ⟨by omega, by omega⟩ hok)) ?_
    rintro _ _ ⟨rfl, rfl⟩
    refine ⟨ro_s, ?_⟩
    refine TA.tk 9 1023 rfl rfl rfl (Val.move rfl) ?_ (hro := ro_s)
    refine TA.tk 10 2047 rfl rfl rfl (Val.extract rfl rfl) ?_ (hro := ro_s)
    refine TA.tk 11 4095 rfl rfl rfl (Val.extract rfl rfl) ?_ (hro := ro_s)
    refine TA.one 12 (by kernel_rfl) ?_
    refine TO.dz 8191 (some 10) rfl rfl rfl rfl (Does.alloc ze57 rfl) ?_
    rintro _ _ ⟨b3, rfl, rfl⟩
    refine ⟨ro_s, ?_⟩
    refine TA.one 13 (by kernel_rfl) ?_
    refine TO.dz 16383 none rfl rfl rfl rfl (Does.store (i := 0) rfl rfl rfl sz57 rfl rfl (by first | exact Nat.le_of_ble_eq_true rfl | decide | omega) rfl rfl) ?_
    rintro _ _ ⟨rfl, rfl⟩
    refine ⟨ro_s, ?_⟩
    refine TA.tk 14 32767 rfl rfl rfl (Val.assign rfl) ?_ (hro := ro_s)
    refine TA.done (by kernel_rfl) ?_
    refine AtX.join b3 ?_ (Sub.cons rfl (Sub.cons rfl (Sub.cons rfl (Sub.cons rfl (Sub.cons rfl (Sub.cons rfl (Sub.cons rfl (Sub.cons rfl (Sub.nil _))))))))) (fun w h => h)
    trivial
   ·
    refine TO.dz 4351 (some 10) rfl rfl rfl rfl (Does.alloc ze57 rfl) ?_
    rintro _ _ ⟨b3, rfl, rfl⟩
    refine ⟨ro_s, ?_⟩
    refine TA.one 8 (by kernel_rfl) ?_
    refine TO.dz 4607 (some 42) rfl rfl rfl rfl (Does.callF go77 rfl (rKey_no rb lg ls 4 c.seed ones c.grace _ (by rw [h1]; rfl) (rd_rowA (i := 5) rfl) (rd_rowA (i := 6) rfl) k x hx (sgen kind gen) now ⟨hxb.1, by omega⟩ hxs ⟨by omega, by omega⟩ hok)) ?_
    rintro _ _ ⟨rfl, rfl⟩
    refine ⟨ro_s, ?_⟩
    refine TA.tk 9 5119 rfl rfl rfl (Val.move rfl) ?_ (hro := ro_s)
    refine TA.tk 10 6143 rfl rfl rfl (Val.extract rfl rfl) ?_ (hro := ro_s)
    refine TA.tk 11 8191 rfl rfl rfl (Val.extract rfl rfl) ?_ (hro := ro_s)
    refine TA.one 13 (by kernel_rfl) ?_
    refine TO.dz 16383 none rfl rfl rfl rfl (Does.store (i := 0) rfl rfl rfl sz57 rfl rfl (by first | exact Nat.le_of_ble_eq_true rfl | decide | omega) rfl rfl) ?_
    rintro _ _ ⟨rfl, rfl⟩
    refine ⟨ro_s, ?_⟩
    refine TA.tk 14 32767 rfl rfl rfl (Val.assign rfl) ?_ (hro := ro_s)
    refine TA.done (by kernel_rfl) ?_
    refine AtX.join b3 ?_ (Sub.cons rfl (Sub.cons rfl (Sub.cons rfl (Sub.cons rfl (Sub.cons rfl (Sub.cons rfl (Sub.cons rfl (Sub.cons rfl (Sub.nil _))))))))) (fun w h => h)
    trivial
  ·
   intro b3 _
   refine TC.seq ?_
   refine TC.sr ?_
   refine TL.v (Val.move rfl) ?_
   refine TL.v (Val.neqI rfl rfl) ?_
   refine TL.nt ?_
   refine TC.condP rfl (fun c2 => ?_) (fun c2 => ?_)
   ·
    refine TC.sr ?_
    refine TL.v (Val.buildA ar57 sz24 ze57 rfl rfl) ?_
    refine TL.v (Val.move rfl) ?_
    refine TL.d (Does.store (i := 1) rfl rfl rfl sz57 rfl rfl (by first | exact Nat.le_of_ble_eq_true rfl | decide | omega) rfl rfl) ?_
    rintro _ _ ⟨rfl, rfl⟩
    refine TL.v (Val.assign rfl) ?_
    refine TL.v (Val.assign rfl) ?_
    refine TL.nt ?_
    refine TC.ret3 (fn := Tryz.f41) (fun _ _ h => h) rfl (RV.agg (i := 1) rfl ag57 sz57 rfl rfl rfl) (RV.tmp rfl) (RV.tmp rfl) (M' := (rgO gb c rb (some ⟨nb, 0, none⟩) N cn (some ⟨ob, 0, none⟩) N co :: rrO rb c.seed c.grace lg ls N :: (lg, row 3 (gens ones)) :: (ls, row 2 (sinces ones)) :: (nb, row 76 (nws.map pp ++ sn)) :: (ob, row 76 (ols.map pp ++ so)) :: T)) (fun w h => h.drop.drop.drop) ?_
    exact ⟨rfl, rfl⟩
   ·
    first | exact absurd rfl c2 | (exfalso; simp at c2) | exact absurd c2 (by decide)

/-- (*quorumite/quorumiteref5.Gate).key -/
theorem rgKey_two (gb rb lg ls nb cn ob co : Nat) (sn so : List Value) (c : Cf) (N : Nat) (ones : List On) (nws ols : List Nat) (T : Hp) (hN : c.n = N) (h1 : ones.length = N) (h2 : nws.length = N) (h3 : ols.length = N) (hgr : 1 ≤ c.grace ∧ c.grace ≤ 100) (k : Nat) (x : On) (hx : ones[k]? = some x) (hxb : 0 ≤ x.gen ∧ x.gen ≤ 60000) (hxs : 0 ≤ x.since ∧ x.since ≤ 1099511627776) (kind gen sq ep va me : Int) (hgen : -1000000 ≤ gen ∧ gen ≤ 1000000) (hk2 : kind = 2 ∧ gen - 1 ≠ x.gen) (now : Int)  : FnC Tryz.prog 41 #[.pointer (some ⟨gb, 0, none⟩), .agg #[.int .i64 kind, .int .i64 ((k : Nat) : Int), .int .i64 gen, .int .i64 sq, .int .i64 ep, .int .i64 va, .int .i64 me], .int .i64 now] (rgO gb c rb (some ⟨nb, 0, none⟩) N cn (some ⟨ob, 0, none⟩) N co :: rrO rb c.seed c.grace lg ls N :: (lg, row 3 (gens ones)) :: (ls, row 2 (sinces ones)) :: (nb, row 76 (nws.map pp ++ sn)) :: (ob, row 76 (ols.map pp ++ so)) :: T) (fun v M' => v = .tuple #[.agg #[.int .u64 0, .int .u64 0], .pointer none, .int .i64 4] ∧ (rgO gb c rb (some ⟨nb, 0, none⟩) N cn (some ⟨ob, 0, none⟩) N co :: rrO rb c.seed c.grace lg ls N :: (lg, row 3 (gens ones)) :: (ls, row 2 (sinces ones)) :: (nb, row 76 (nws.map pp ++ sn)) :: (ob, row 76 (ols.map pp ++ so)) :: T) = M') := by
 have hkN : k < N := by rw [← h1]; exact (List.getElem?_eq_some_iff.1 hx).1
 refine FnC.intro Tryz.func41 rfl 80 rfl (by simp) (fun z => ?_)
 refine TC.en (E' := [(0, _), (1, _), (2, _)]) ?_
 refine TC.sr ?_
 refine TL.d (Does.box rfl rfl) ?_
 rintro _ _ ⟨b1, rfl, rfl⟩
 refine TL.d (Does.alloc ze57 rfl) ?_
 rintro _ _ ⟨b2, rfl, rfl⟩
 refine TL.v (Val.assign rfl) ?_
 refine TL.v (Val.assign rfl) ?_
 refine TL.nt ?_
 refine TC.sr ?_
 refine TL.v (Val.loadAgg 1 rfl ag39 sz39 rfl rfl rfl) ?_
 refine TL.d (Does.callF go76 rfl (rsealed_fn k kind gen sq ep va me _ hgen)) ?_
 rintro _ _ ⟨rfl, rfl⟩
 refine TL.v (Val.assign rfl) ?_
 refine TL.nt ?_
 refine TC.seq ?_
 refine TC.seq ?_
 refine TC.drawLM mixed 18 ?_
 refine TA.tk 0 1 rfl rfl rfl (Val.fieldAddr rfl fl39_0 sz3 rfl) ?_
 refine TA.tk 1 3 rfl rfl rfl (Val.load 1 rfl ag3 rfl rfl) ?_
 refine TA.tk 2 7 rfl rfl rfl (Val.eqlI rfl rfl) ?_
 refine TA.tk 3 15 rfl rfl rfl (Val.move rfl) ?_
 refine TA.gen (fun g4 hg4 => ?_)
 refine TA.gtk 4 31 rfl rfl rfl rfl rfl (fun hg => by subst hg; exact (Val.move rfl)) ?_
 refine TA.gtk 5 63 rfl rfl rfl rfl rfl (fun hg => by subst hg; exact (Val.move rfl)) ?_
 refine TA.gtk 6 127 rfl rfl rfl rfl rfl (fun hg => by subst hg; exact (Val.nilCheck rfl)) ?_
 refine TA.gtk 7 255 rfl rfl rfl rfl rfl (fun hg => by subst hg; exact (Val.fieldAddr rfl fl71_1 sz68 rfl)) ?_
 refine TA.gtk 8 511 rfl rfl rfl rfl rfl (fun hg => by subst hg; exact (Val.load 2 rfl ag68 rfl rfl)) ?_
 refine TA.gtk 9 1023 rfl rfl rfl rfl rfl (fun hg => by subst hg; exact (Val.nilCheck rfl)) ?_
 refine TA.gtk 10 2047 rfl rfl rfl rfl rfl (fun hg => by subst hg; exact (Val.fieldAddr rfl fl67_2 sz22 rfl)) ?_
 refine TA.gtk 11 4095 rfl rfl rfl rfl rfl (fun hg => by subst hg; exact (Val.load 3 rfl ag22 rfl rfl)) ?_
 refine TA.gtk 12 8191 rfl rfl rfl rfl rfl (fun hg => by subst hg; exact (Val.fieldAddr rfl fl39_1 sz3 rfl)) ?_
 refine TA.gtk 13 16383 rfl rfl rfl rfl rfl (fun hg => by subst hg; exact (Val.load 1 rfl ag3 rfl rfl)) ?_
 refine TA.gtk 14 32767 rfl rfl rfl rfl rfl (fun hg => by subst hg; exact (Val.indexAddr (i := k) (r := k) rfl rfl sl22 sz3 rfl hkN (by omega))) ?_
 refine TA.gtk 15 65535 rfl rfl rfl rfl rfl (fun hg => by subst hg; exact (Val.loadRd (o := 0) (j := k) (v := .int .i64 x.gen) rfl ag3 (rd_rowA (i := 4) rfl) (by omega) (map_get hx))) ?_
 refine TA.gtk 16 131071 rfl rfl rfl rfl rfl (fun hg => by subst hg; exact (Val.neqI rfl rfl)) ?_
 refine TA.tk 17 262143 rfl rfl rfl (Val.pickAnd rfl rfl rfl) ?_
 refine TA.done (by kernel_rfl) ?_
 refine AtX.then ?_
 refine TC.en (E' := [(0, _), (2, _), (4, _), (6, _), (7, _), (8, _), (9, _), (31, _)]) ?_
 refine TC.cond rfl (fun c1 => ?_) (fun c1 => ?_)
 ·
  refine TC.sr ?_
  refine TL.v (Val.buildA ar57 sz24 ze57 rfl rfl) ?_
  refine TL.d (Does.store (i := 0) rfl rfl rfl sz57 rfl rfl (by first | exact Nat.le_of_ble_eq_true rfl | decide | omega) rfl rfl) ?_
  rintro _ _ ⟨rfl, rfl⟩
  refine TL.v (Val.assign rfl) ?_
  refine TL.v (Val.assign rfl) ?_
  refine TL.nt ?_
  refine TC.ret3 (fn := Tryz.f41) (fun _ _ h => h) rfl (RV.agg (i := 0) rfl ag57 sz57 rfl rfl rfl) (RV.tmp rfl) (RV.tmp rfl) (M' := (rgO gb c rb (some ⟨nb, 0, none⟩) N cn (some ⟨ob, 0, none⟩) N co :: rrO rb c.seed c.grace lg ls N :: (lg, row 3 (gens ones)) :: (ls, row 2 (sinces ones)) :: (nb, row 76 (nws.map pp ++ sn)) :: (ob, row 76 (ols.map pp ++ so)) :: T)) (fun w h => h.drop.drop) ?_
  exact ⟨rfl, rfl⟩
 ·
  (exfalso; unfold sgen at *; grind)

end Go.Proofs.YtphoapajlcaoeaaGreat
/- walks -/
set_option linter.unusedVariables false
set_option linter.unusedSimpArgs false
set_option maxRecDepth 100000
set_option maxHeartbeats 4000000
namespace Go.Proofs.YtphoapajlcaoeaaGreat
open Go Go.X
/-- (*quorumite/quorumiteref5.Gate).Check -/
theorem rCheck_bad (gb rb lg ls nb cn ob co : Nat) (sn so : List Value) (c : Cf) (N : Nat) (ones : List On) (nws ols : List Nat) (T : Hp) (l : List UInt8) (hl : l.length = 48) (ho : okL (l.take 32) = false) (now : Int) : FnC Tryz.prog 11 #[.pointer (some ⟨gb, 0, none⟩), .string (ofL l), .int .i64 now, .slice none 0 0] (rgO gb c rb (some ⟨nb, 0, none⟩) N cn (some ⟨ob, 0, none⟩) N co :: rrO rb c.seed c.grace lg ls N :: (lg, row 3 (gens ones)) :: (ls, row 2 (sinces ones)) :: (nb, row 76 (nws.map pp ++ sn)) :: (ob, row 76 (ols.map pp ++ so)) :: T) (fun v M' => v = .tuple #[.agg #[.int .i64 0, .int .i64 0, .int .i64 0, .int .i64 0, .int .i64 0, .int .i64 0, .int .i64 0], .int .i64 2] ∧ (rgO gb c rb (some ⟨nb, 0, none⟩) N cn (some ⟨ob, 0, none⟩) N co :: rrO rb c.seed c.grace lg ls N :: (lg, row 3 (gens ones)) :: (ls, row 2 (sinces ones)) :: (nb, row 76 (nws.map pp ++ sn)) :: (ob, row 76 (ols.map pp ++ so)) :: T) = M') := by
 refine FnC.intro Tryz.func11 rfl 110 rfl (by simp) (fun z => ?_)
 refine TC.en (E' := [(0, _), (1, _), (2, _), (3, _)]) ?_
 refine TC.sr ?_
 refine TL.d (Does.alloc ze39 rfl) ?_
 rintro _ _ ⟨b1, rfl, rfl⟩
 refine TL.v (Val.assign rfl) ?_
 refine TL.nt ?_
 refine TC.sr ?_
 refine TL.v (Val.move rfl) ?_
 refine TL.d (Does.callF go40 rfl (refSplit_no l _ hl ho)) ?_
 rintro _ _ ⟨rfl, rfl⟩
 refine TL.v (Val.move rfl) ?_
 refine TL.v (Val.extract rfl rfl) ?_
 refine TL.v (Val.extract rfl rfl) ?_
 refine TL.v (Val.extract rfl rfl) ?_
 refine TL.v (Val.extract rfl rfl) ?_
 refine TL.d (Does.alloc ze39 rfl) ?_
 rintro _ _ ⟨bs, rfl, rfl⟩
 refine TL.d (Does.alloc ze98 rfl) ?_
 rintro _ _ ⟨bt, rfl, rfl⟩
 refine TL.d (Does.store (i := 1) rfl rfl rfl sz39 rfl rfl (by first | exact Nat.le_of_ble_eq_true rfl | decide | omega) rfl rfl) ?_
 rintro _ _ ⟨rfl, rfl⟩
 refine TL.v (Val.assign rfl) ?_
 refine TL.d (Does.store (i := 0) rfl rfl rfl sz98 rfl rfl (by first | exact Nat.le_of_ble_eq_true rfl | decide | omega) rfl rfl) ?_
 rintro _ _ ⟨rfl, rfl⟩
 refine TL.v (Val.assign rfl) ?_
 refine TL.nt ?_
 refine TC.en (E' := [(0, _), (2, _), (3, _), (8, _), (9, _), (10, _), (11, _), (12, _), (13, _)]) ?_
 refine TC.seq ?_
 refine TC.sr ?_
 refine TL.v (Val.move rfl) ?_
 refine TL.v (Val.neqI rfl rfl) ?_
 refine TL.nt ?_
 refine TC.condP rfl (fun c1 => ?_) (fun c1 => ?_)
 ·
  refine TC.sr ?_
  refine TL.v (Val.buildS pl39 ze39 rfl rfl) ?_
  refine TL.v (Val.move rfl) ?_
  refine TL.d (Does.store (i := 2) rfl rfl rfl sz39 rfl rfl (by first | exact Nat.le_of_ble_eq_true rfl | decide | omega) rfl rfl) ?_
  rintro _ _ ⟨rfl, rfl⟩
  refine TL.v (Val.assign rfl) ?_
  refine TL.nt ?_
  refine TC.r2 (hM := (fun w h => h.drop.drop.drop)) (M' := (rgO gb c rb (some ⟨nb, 0, none⟩) N cn (some ⟨ob, 0, none⟩) N co :: rrO rb c.seed c.grace lg ls N :: (lg, row 3 (gens ones)) :: (ls, row 2 (sinces ones)) :: (nb, row 76 (nws.map pp ++ sn)) :: (ob, row 76 (ols.map pp ++ so)) :: T)) (fn := Tryz.f11) (fun _ _ h => h) rfl (RV.agg (i := 2) rfl ag39 sz39 rfl rfl rfl) (RV.tmp rfl) ?_
  exact ⟨rfl, rfl⟩
 ·
  (exfalso; simp at c1)

/-- (*quorumite/quorumiteref5.Gate).Check -/
theorem rCheck_who (gb rb lg ls nb cn ob co : Nat) (sn so : List Value) (c : Cf) (N : Nat) (ones : List On) (nws ols : List Nat) (T : Hp) (hN : c.n = N) (k : Nat) (hkN : N ≤ k) (kind gen sq ep va me : Int) (now : Int) (tl : List UInt8) (htl : tl.length = 16) (hm : mayM ⟨kind, (k : Nat), gen, sq, ep, va, me⟩ = true)  : FnC Tryz.prog 11 #[.pointer (some ⟨gb, 0, none⟩), .string (ofL (putM ⟨kind, (k : Nat), gen, sq, ep, va, me⟩ ++ tl)), .int .i64 now, .slice none 0 0] (rgO gb c rb (some ⟨nb, 0, none⟩) N cn (some ⟨ob, 0, none⟩) N co :: rrO rb c.seed c.grace lg ls N :: (lg, row 3 (gens ones)) :: (ls, row 2 (sinces ones)) :: (nb, row 76 (nws.map pp ++ sn)) :: (ob, row 76 (ols.map pp ++ so)) :: T) (fun v M' => v = .tuple #[.agg #[.int .i64 0, .int .i64 0, .int .i64 0, .int .i64 0, .int .i64 0, .int .i64 0, .int .i64 0], .int .i64 3] ∧ (rgO gb c rb (some ⟨nb, 0, none⟩) N cn (some ⟨ob, 0, none⟩) N co :: rrO rb c.seed c.grace lg ls N :: (lg, row 3 (gens ones)) :: (ls, row 2 (sinces ones)) :: (nb, row 76 (nws.map pp ++ sn)) :: (ob, row 76 (ols.map pp ++ so)) :: T) = M') := by
 refine FnC.intro Tryz.func11 rfl 110 rfl (by simp) (fun z => ?_)
 refine TC.en (E' := [(0, _), (1, _), (2, _), (3, _)]) ?_
 refine TC.sr ?_
 refine TL.d (Does.alloc ze39 rfl) ?_
 rintro _ _ ⟨b1, rfl, rfl⟩
 refine TL.v (Val.assign rfl) ?_
 refine TL.nt ?_
 refine TC.sr ?_
 refine TL.v (Val.move rfl) ?_
 refine TL.d (Does.callF go40 rfl (refSplit_yes ⟨kind, (k : Nat), gen, sq, ep, va, me⟩ tl _ hm htl)) ?_
 rintro _ _ ⟨rfl, rfl⟩
 refine TL.v (Val.move rfl) ?_
 refine TL.v (Val.extract rfl rfl) ?_
 refine TL.v (Val.extract rfl rfl) ?_
 refine TL.v (Val.extract rfl rfl) ?_
 refine TL.v (Val.extract rfl rfl) ?_
 refine TL.d (Does.alloc ze39 rfl) ?_
 rintro _ _ ⟨bs, rfl, rfl⟩
 refine TL.d (Does.alloc ze98 rfl) ?_
 rintro _ _ ⟨bt, rfl, rfl⟩
 refine TL.d (Does.store (i := 1) rfl rfl rfl sz39 rfl rfl (by first | exact Nat.le_of_ble_eq_true rfl | decide | omega) rfl rfl) ?_
 rintro _ _ ⟨rfl, rfl⟩
 refine TL.v (Val.assign rfl) ?_
 refine TL.d (Does.store (i := 0) rfl rfl rfl sz98 rfl rfl (by first | exact Nat.le_of_ble_eq_true rfl | decide | omega) rfl rfl) ?_
 rintro _ _ ⟨rfl, rfl⟩
 refine TL.v (Val.assign rfl) ?_
 refine TL.nt ?_
 refine TC.en (E' := [(0, _), (2, _), (3, _), (8, _), (9, _), (10, _), (11, _), (12, _), (13, _)]) ?_
 refine TC.seq ?_
 refine TC.sr ?_
 refine TL.v (Val.move rfl) ?_
 refine TL.v (Val.neqI rfl rfl) ?_
 refine TL.nt ?_
 refine TC.condP rfl (fun c1 => ?_) (fun c1 => ?_)
 ·
  exact absurd rfl c1
 ·
  refine TC.skip ?_
  refine AtX.then ?_
  refine TC.seq ?_
  refine TC.seq ?_
  refine TC.heap (M' := (rgO gb c rb (some ⟨nb, 0, none⟩) N cn (some ⟨ob, 0, none⟩) N co :: rrO rb c.seed c.grace lg ls N :: (lg, row 3 (gens ones)) :: (ls, row 2 (sinces ones)) :: (nb, row 76 (nws.map pp ++ sn)) :: (ob, row 76 (ols.map pp ++ so)) :: ((bt, .cells #[.int .u64 (get8 tl 0 : Nat), .int .u64 (get8 tl 8 : Nat)] 98 (0, 0)) :: (bs, .cells #[.int .i64 kind, .int .i64 ((k : Nat) : Int), .int .i64 gen, .int .i64 sq, .int .i64 ep, .int .i64 va, .int .i64 me] 39 (0, 0)) :: (b1, .cells #[.int .i64 0, .int .i64 0, .int .i64 0, .int .i64 0, .int .i64 0, .int .i64 0, .int .i64 0] 39 (0, 0)) :: T))) (fun w h => ro_mv (A := [_, _, _]) (L := [_, _, _, _, _, _]) w h) ?_
  refine TC.drawLM mixed 22 ?_
  refine TA.tk 0 1 rfl rfl rfl (Val.fieldAddr rfl fl39_1 sz3 rfl) ?_
  refine TA.tk 1 3 rfl rfl rfl (Val.load 7 rfl ag3 rfl rfl) ?_
  refine TA.tk 2 7 rfl rfl rfl (Val.move rfl) ?_
  refine TA.tk 3 15 rfl rfl rfl (Val.nilCheck rfl) ?_
  refine TA.tk 4 31 rfl rfl rfl (Val.fieldAddr rfl fl71_0 sz26 rfl) ?_
  refine TA.tk 5 63 rfl rfl rfl (Val.fieldAddr rfl fl26_0 sz3 rfl) ?_
  refine TA.tk 6 127 rfl rfl rfl (Val.load 0 rfl ag3 rfl rfl) ?_
  refine TA.tk 7 255 rfl rfl rfl (Val.geq rfl rfl) ?_
  refine TA.tk 8 511 rfl rfl rfl (Val.move rfl) ?_
  refine TA.gen (fun g3 hg3 => ?_)
  cases g3 with
  | false =>
   (exfalso; grind)
  | true =>
   refine TA.tkP 9 1023 rfl rfl rfl rfl rfl rfl ?_
   refine TA.tkP 10 2047 rfl rfl rfl rfl rfl rfl ?_
   refine TA.tkP 11 4095 rfl rfl rfl rfl rfl rfl ?_
   refine TA.tkP 12 8191 rfl rfl rfl rfl rfl rfl ?_
   refine TA.tkP 13 16383 rfl rfl rfl rfl rfl rfl ?_
   refine TA.tkP 14 32767 rfl rfl rfl rfl rfl rfl ?_
   refine TA.tkU 15 65535 rfl rfl rfl rfl rfl ?_
   refine TA.tkU 16 131071 rfl rfl rfl rfl rfl ?_
   refine TA.tkU 17 262143 rfl rfl rfl rfl rfl ?_
   refine TA.tkU 18 524287 rfl rfl rfl rfl rfl ?_
   refine TA.tkU 19 1048575 rfl rfl rfl rfl rfl ?_
   refine TA.tkP 20 2097151 rfl rfl rfl rfl rfl rfl ?_
   refine TA.tk 21 4194303 rfl rfl rfl (Val.pick rfl rfl rfl) ?_
   refine TA.done (by kernel_rfl) ?_
   refine AtX.then ?_
   refine TC.en (E' := [(0, _), (2, _), (8, _), (9, _), (10, _), (11, _), (12, _), (49, _)]) ?_
   refine TC.cond rfl (fun c2 => ?_) (fun c2 => ?_)
   ·
    refine TC.sr ?_
    refine TL.v (Val.buildS pl39 ze39 rfl rfl) ?_
    refine TL.d (Does.store (i := 8) rfl rfl rfl sz39 rfl rfl (by first | exact Nat.le_of_ble_eq_true rfl | decide | omega) rfl rfl) ?_
    rintro _ _ ⟨rfl, rfl⟩
    refine TL.v (Val.assign rfl) ?_
    refine TL.nt ?_
    refine TC.r2 (hM := (fun w h => (ro_mv (A := [_, _, _, _, _, _]) (L := [_, _, _]) w h).drop.drop.drop)) (M' := (rgO gb c rb (some ⟨nb, 0, none⟩) N cn (some ⟨ob, 0, none⟩) N co :: rrO rb c.seed c.grace lg ls N :: (lg, row 3 (gens ones)) :: (ls, row 2 (sinces ones)) :: (nb, row 76 (nws.map pp ++ sn)) :: (ob, row 76 (ols.map pp ++ so)) :: T)) (fn := Tryz.f11) (fun _ _ h => h) rfl (RV.agg (i := 8) rfl ag39 sz39 rfl rfl rfl) (RV.tmp rfl) ?_
    exact ⟨rfl, rfl⟩
   ·
    (exfalso; grind)

/-- (*quorumite/quorumiteref5.Gate).Check -/
theorem rCheck_rot (gb rb lg ls nb cn ob co : Nat) (sn so : List Value) (c : Cf) (N : Nat) (ones : List On) (nws ols : List Nat) (T : Hp) (hN : c.n = N) (h1 : ones.length = N) (h2 : nws.length = N) (h3 : ols.length = N) (hgr : 1 ≤ c.grace ∧ c.grace ≤ 100) (k : Nat) (x : On) (hx : ones[k]? = some x) (hxb : 0 ≤ x.gen ∧ x.gen ≤ 60000) (hxs : 0 ≤ x.since ∧ x.since ≤ 1099511627776) (kind gen sq ep va me : Int) (hgen : -1000000 ≤ gen ∧ gen ≤ 1000000) (hk2 : kind = 2 ∧ gen - 1 ≠ x.gen) (now : Int) (tl : List UInt8) (htl : tl.length = 16) (hm : mayM ⟨kind, (k : Nat), gen, sq, ep, va, me⟩ = true)  : FnC Tryz.prog 11 #[.pointer (some ⟨gb, 0, none⟩), .string (ofL (putM ⟨kind, (k : Nat), gen, sq, ep, va, me⟩ ++ tl)), .int .i64 now, .slice none 0 0] (rgO gb c rb (some ⟨nb, 0, none⟩) N cn (some ⟨ob, 0, none⟩) N co :: rrO rb c.seed c.grace lg ls N :: (lg, row 3 (gens ones)) :: (ls, row 2 (sinces ones)) :: (nb, row 76 (nws.map pp ++ sn)) :: (ob, row 76 (ols.map pp ++ so)) :: T) (fun v M' => v = .tuple #[.agg #[.int .i64 0, .int .i64 0, .int .i64 0, .int .i64 0, .int .i64 0, .int .i64 0, .int .i64 0], .int .i64 4] ∧ (rgO gb c rb (some ⟨nb, 0, none⟩) N cn (some ⟨ob, 0, none⟩) N co :: rrO rb c.seed c.grace lg ls N :: (lg, row 3 (gens ones)) :: (ls, row 2 (sinces ones)) :: (nb, row 76 (nws.map pp ++ sn)) :: (ob, row 76 (ols.map pp ++ so)) :: T) = M') := by
 have hkN : k < N := by rw [← h1]; exact (List.getElem?_eq_some_iff.1 hx).1
 refine FnC.intro Tryz.func11 rfl 110 rfl (by simp) (fun z => ?_)
 refine TC.en (E' := [(0, _), (1, _), (2, _), (3, _)]) ?_
 refine TC.sr ?_
 refine TL.d (Does.alloc ze39 rfl) ?_
 rintro _ _ ⟨b1, rfl, rfl⟩
 refine TL.v (Val.assign rfl) ?_
 refine TL.nt ?_
 refine TC.sr ?_
 refine TL.v (Val.move rfl) ?_
 refine TL.d (Does.callF go40 rfl (refSplit_yes ⟨kind, (k : Nat), gen, sq, ep, va, me⟩ tl _ hm htl)) ?_
 rintro _ _ ⟨rfl, rfl⟩
 refine TL.v (Val.move rfl) ?_
 refine TL.v (Val.extract rfl rfl) ?_
 refine TL.v (Val.extract rfl rfl) ?_
 refine TL.v (Val.extract rfl rfl) ?_
 refine TL.v (Val.extract rfl rfl) ?_
 refine TL.d (Does.alloc ze39 rfl) ?_
 rintro _ _ ⟨bs, rfl, rfl⟩
 refine TL.d (Does.alloc ze98 rfl) ?_
 rintro _ _ ⟨bt, rfl, rfl⟩
 refine TL.d (Does.store (i := 1) rfl rfl rfl sz39 rfl rfl (by first | exact Nat.le_of_ble_eq_true rfl | decide | omega) rfl rfl) ?_
 rintro _ _ ⟨rfl, rfl⟩
 refine TL.v (Val.assign rfl) ?_
 refine TL.d (Does.store (i := 0) rfl rfl rfl sz98 rfl rfl (by first | exact Nat.le_of_ble_eq_true rfl | decide | omega) rfl rfl) ?_
 rintro _ _ ⟨rfl, rfl⟩
 refine TL.v (Val.assign rfl) ?_
 refine TL.nt ?_
 refine TC.en (E' := [(0, _), (2, _), (3, _), (8, _), (9, _), (10, _), (11, _), (12, _), (13, _)]) ?_
 refine TC.seq ?_
 refine TC.sr ?_
 refine TL.v (Val.move rfl) ?_
 refine TL.v (Val.neqI rfl rfl) ?_
 refine TL.nt ?_
 refine TC.condP rfl (fun c1 => ?_) (fun c1 => ?_)
 ·
  exact absurd rfl c1
 ·
  refine TC.skip ?_
  refine AtX.then ?_
  refine TC.seq ?_
  refine TC.seq ?_
  refine TC.heap (M' := (rgO gb c rb (some ⟨nb, 0, none⟩) N cn (some ⟨ob, 0, none⟩) N co :: rrO rb c.seed c.grace lg ls N :: (lg, row 3 (gens ones)) :: (ls, row 2 (sinces ones)) :: (nb, row 76 (nws.map pp ++ sn)) :: (ob, row 76 (ols.map pp ++ so)) :: ((bt, .cells #[.int .u64 (get8 tl 0 : Nat), .int .u64 (get8 tl 8 : Nat)] 98 (0, 0)) :: (bs, .cells #[.int .i64 kind, .int .i64 ((k : Nat) : Int), .int .i64 gen, .int .i64 sq, .int .i64 ep, .int .i64 va, .int .i64 me] 39 (0, 0)) :: (b1, .cells #[.int .i64 0, .int .i64 0, .int .i64 0, .int .i64 0, .int .i64 0, .int .i64 0, .int .i64 0] 39 (0, 0)) :: T))) (fun w h => ro_mv (A := [_, _, _]) (L := [_, _, _, _, _, _]) w h) ?_
  refine TC.drawLM mixed 22 ?_
  refine TA.tk 0 1 rfl rfl rfl (Val.fieldAddr rfl fl39_1 sz3 rfl) ?_
  refine TA.tk 1 3 rfl rfl rfl (Val.load 7 rfl ag3 rfl rfl) ?_
  refine TA.tk 2 7 rfl rfl rfl (Val.move rfl) ?_
  refine TA.tk 3 15 rfl rfl rfl (Val.nilCheck rfl) ?_
  refine TA.tk 4 31 rfl rfl rfl (Val.fieldAddr rfl fl71_0 sz26 rfl) ?_
  refine TA.tk 5 63 rfl rfl rfl (Val.fieldAddr rfl fl26_0 sz3 rfl) ?_
  refine TA.tk 6 127 rfl rfl rfl (Val.load 0 rfl ag3 rfl rfl) ?_
  refine TA.tk 7 255 rfl rfl rfl (Val.geq rfl rfl) ?_
  refine TA.tk 8 511 rfl rfl rfl (Val.move rfl) ?_
  refine TA.gen (fun g3 hg3 => ?_)
  cases g3 with
  | false =>
   refine TA.tkY 9 1023 rfl rfl rfl rfl rfl (Val.fieldAddr rfl fl39_1 sz3 rfl) ?_
   refine TA.tkY 10 2047 rfl rfl rfl rfl rfl (Val.load 7 rfl ag3 rfl rfl) ?_
   refine TA.tkY 11 4095 rfl rfl rfl rfl rfl (Val.move rfl) ?_
   refine TA.tkY 12 8191 rfl rfl rfl rfl rfl (Val.lenSl rfl rfl sl103) ?_
   refine TA.tkY 13 16383 rfl rfl rfl rfl rfl (Val.lss rfl rfl) ?_
   refine TA.tkY 14 32767 rfl rfl rfl rfl rfl (Val.move rfl) ?_
   refine TA.gen (fun g4 hg4 => ?_)
   cases g4 with
   | false =>
    refine TA.tkP 15 65535 rfl rfl rfl rfl rfl rfl ?_
    refine TA.tkP 16 131071 rfl rfl rfl rfl rfl rfl ?_
    refine TA.tkP 17 262143 rfl rfl rfl rfl rfl rfl ?_
    refine TA.tkP 18 524287 rfl rfl rfl rfl rfl rfl ?_
    refine TA.tkP 19 1048575 rfl rfl rfl rfl rfl rfl ?_
    refine TA.tkY 20 2097151 rfl rfl rfl rfl rfl (Val.pick rfl rfl rfl) ?_
    refine TA.tk 21 4194303 rfl rfl rfl (Val.pickOr rfl rfl rfl) ?_
    refine TA.done (by kernel_rfl) ?_
    refine AtX.then ?_
    refine TC.en (E' := [(0, _), (2, _), (8, _), (9, _), (10, _), (11, _), (12, _), (49, _)]) ?_
    refine TC.cond rfl (fun c2 => ?_) (fun c2 => ?_)
    ·
     (exfalso; grind)
    ·
     refine TC.skip ?_
     refine AtX.then ?_
     refine TC.sr ?_
     refine TL.v (Val.move rfl) ?_
     refine TL.v (Val.loadAgg 7 rfl ag39 sz39 rfl rfl rfl) ?_
     refine TL.v (Val.move rfl) ?_
     refine TL.d (Does.callF go41 rfl (rgKey_two gb rb lg ls nb cn ob co sn so c N ones nws ols _ hN h1 h2 h3 hgr k x hx hxb hxs kind gen sq ep va me hgen hk2 now)) ?_
     rintro _ _ ⟨rfl, rfl⟩
     refine TL.v (Val.move rfl) ?_
     refine TL.v (Val.extract rfl rfl) ?_
     refine TL.v (Val.extract rfl rfl) ?_
     refine TL.v (Val.extract rfl rfl) ?_
     refine TL.d (Does.alloc ze57 rfl) ?_
     rintro _ _ ⟨bk, rfl, rfl⟩
     refine TL.heap (M' := (rgO gb c rb (some ⟨nb, 0, none⟩) N cn (some ⟨ob, 0, none⟩) N co :: rrO rb c.seed c.grace lg ls N :: (lg, row 3 (gens ones)) :: (ls, row 2 (sinces ones)) :: (nb, row 76 (nws.map pp ++ sn)) :: (ob, row 76 (ols.map pp ++ so)) :: ((bk, .cells #[.int .u64 0, .int .u64 0] 57 (0, 0)) :: (bt, .cells #[.int .u64 (get8 tl 0 : Nat), .int .u64 (get8 tl 8 : Nat)] 98 (0, 0)) :: (bs, .cells #[.int .i64 kind, .int .i64 ((k : Nat) : Int), .int .i64 gen, .int .i64 sq, .int .i64 ep, .int .i64 va, .int .i64 me] 39 (0, 0)) :: (b1, .cells #[.int .i64 0, .int .i64 0, .int .i64 0, .int .i64 0, .int .i64 0, .int .i64 0, .int .i64 0] 39 (0, 0)) :: T))) (fun w h => ro_mv (A := [_]) (L := [_, _, _, _, _, _]) w h) ?_
     refine TL.d (Does.store (i := 6) rfl rfl rfl sz57 rfl rfl (by first | exact Nat.le_of_ble_eq_true rfl | decide | omega) rfl rfl) ?_
     rintro _ _ ⟨rfl, rfl⟩
     refine TL.v (Val.assign rfl) ?_
     refine TL.v (Val.assign rfl) ?_
     refine TL.nt ?_
     refine TC.en (E' := [(0, _), (2, _), (8, _), (9, _), (10, _), (11, _), (12, _), (14, _), (15, _), (16, _)]) ?_
     refine TC.seq ?_
     refine TC.block ?_
     refine TC.sr ?_
     refine TL.v (Val.move rfl) ?_
     refine TL.v (Val.neqI rfl rfl) ?_
     refine TL.v (Val.assign rfl) ?_
     refine TL.nt ?_
     refine TC.condP rfl (fun c3 => ?_) (fun c3 => ?_)
     ·
      refine TC.en (E' := [(8, _), (9, _), (10, _), (16, _)]) ?_
      refine TC.sr ?_
      refine TL.v (Val.buildS pl39 ze39 rfl rfl) ?_
      refine TL.v (Val.move rfl) ?_
      refine TL.d (Does.store (i := 9) rfl rfl rfl sz39 rfl rfl (by first | exact Nat.le_of_ble_eq_true rfl | decide | omega) rfl rfl) ?_
      rintro _ _ ⟨rfl, rfl⟩
      refine TL.v (Val.assign rfl) ?_
      refine TL.nt ?_
      refine TC.r2 (hM := (fun w h => (ro_mv (A := [_, _, _, _, _, _]) (L := [_, _, _, _]) w h).drop.drop.drop.drop)) (M' := (rgO gb c rb (some ⟨nb, 0, none⟩) N cn (some ⟨ob, 0, none⟩) N co :: rrO rb c.seed c.grace lg ls N :: (lg, row 3 (gens ones)) :: (ls, row 2 (sinces ones)) :: (nb, row 76 (nws.map pp ++ sn)) :: (ob, row 76 (ols.map pp ++ so)) :: T)) (fn := Tryz.f11) (fun _ _ h => h) rfl (RV.agg (i := 9) rfl ag39 sz39 rfl rfl rfl) (RV.tmp rfl) ?_
      exact ⟨rfl, rfl⟩
     ·
      first | exact absurd rfl c3 | (exfalso; simp at c3) | exact absurd c3 (by decide)
   | true =>
    (exfalso; grind)
  | true =>
   (exfalso; grind)

/-- (*quorumite/quorumiteref5.Gate).Check -/
theorem rCheck_no (gb rb lg ls nb cn ob co : Nat) (sn so : List Value) (c : Cf) (N : Nat) (ones : List On) (nws ols : List Nat) (T : Hp) (hN : c.n = N) (h1 : ones.length = N) (h2 : nws.length = N) (h3 : ols.length = N) (hgr : 1 ≤ c.grace ∧ c.grace ≤ 100) (k : Nat) (x : On) (hx : ones[k]? = some x) (hxb : 0 ≤ x.gen ∧ x.gen ≤ 60000) (hxs : 0 ≤ x.since ∧ x.since ≤ 1099511627776) (kind gen sq ep va me : Int) (hgen : -1000000 ≤ gen ∧ gen ≤ 1000000) (hk2 : kind = 2 → gen - 1 = x.gen) (now : Int) (tl : List UInt8) (htl : tl.length = 16) (hm : mayM ⟨kind, (k : Nat), gen, sq, ep, va, me⟩ = true) (hok : ¬ okK x (sgen kind gen) now c.grace = true)  : FnC Tryz.prog 11 #[.pointer (some ⟨gb, 0, none⟩), .string (ofL (putM ⟨kind, (k : Nat), gen, sq, ep, va, me⟩ ++ tl)), .int .i64 now, .slice none 0 0] (rgO gb c rb (some ⟨nb, 0, none⟩) N cn (some ⟨ob, 0, none⟩) N co :: rrO rb c.seed c.grace lg ls N :: (lg, row 3 (gens ones)) :: (ls, row 2 (sinces ones)) :: (nb, row 76 (nws.map pp ++ sn)) :: (ob, row 76 (ols.map pp ++ so)) :: T) (fun v M' => v = .tuple #[.agg #[.int .i64 0, .int .i64 0, .int .i64 0, .int .i64 0, .int .i64 0, .int .i64 0, .int .i64 0], .int .i64 4] ∧ (rgO gb c rb (some ⟨nb, 0, none⟩) N cn (some ⟨ob, 0, none⟩) N co :: rrO rb c.seed c.grace lg ls N :: (lg, row 3 (gens ones)) :: (ls, row 2 (sinces ones)) :: (nb, row 76 (nws.map pp ++ sn)) :: (ob, row 76 (ols.map pp ++ so)) :: T) = M') := by
 have hkN : k < N := by rw [← h1]; exact (List.getElem?_eq_some_iff.1 hx).1
 refine FnC.intro Tryz.func11 rfl 110 rfl (by simp) (fun z => ?_)
 refine TC.en (E' := [(0, _), (1, _), (2, _), (3, _)]) ?_
 refine TC.sr ?_
 refine TL.d (Does.alloc ze39 rfl) ?_
 rintro _ _ ⟨b1, rfl, rfl⟩
 refine TL.v (Val.assign rfl) ?_
 refine TL.nt ?_
 refine TC.sr ?_
 refine TL.v (Val.move rfl) ?_
 refine TL.d (Does.callF go40 rfl (refSplit_yes ⟨kind, (k : Nat), gen, sq, ep, va, me⟩ tl _ hm htl)) ?_
 rintro _ _ ⟨rfl, rfl⟩
 refine TL.v (Val.move rfl) ?_
 refine TL.v (Val.extract rfl rfl) ?_
 refine TL.v (Val.extract rfl rfl) ?_
 refine TL.v (Val.extract rfl rfl) ?_
 refine TL.v (Val.extract rfl rfl) ?_
 refine TL.d (Does.alloc ze39 rfl) ?_
 rintro _ _ ⟨bs, rfl, rfl⟩
 refine TL.d (Does.alloc ze98 rfl) ?_
 rintro _ _ ⟨bt, rfl, rfl⟩
 refine TL.d (Does.store (i := 1) rfl rfl rfl sz39 rfl rfl (by first | exact Nat.le_of_ble_eq_true rfl | decide | omega) rfl rfl) ?_
 rintro _ _ ⟨rfl, rfl⟩
 refine TL.v (Val.assign rfl) ?_
 refine TL.d (Does.store (i := 0) rfl rfl rfl sz98 rfl rfl (by first | exact Nat.le_of_ble_eq_true rfl | decide | omega) rfl rfl) ?_
 rintro _ _ ⟨rfl, rfl⟩
 refine TL.v (Val.assign rfl) ?_
 refine TL.nt ?_
 refine TC.en (E' := [(0, _), (2, _), (3, _), (8, _), (9, _), (10, _), (11, _), (12, _), (13, _)]) ?_
 refine TC.seq ?_
 refine TC.sr ?_
 refine TL.v (Val.move rfl) ?_
 refine TL.v (Val.neqI rfl rfl) ?_
 refine TL.nt ?_
 refine TC.condP rfl (fun c1 => ?_) (fun c1 => ?_)
 ·
  exact absurd rfl c1
 ·
  refine TC.skip ?_
  refine AtX.then ?_
  refine TC.seq ?_
  refine TC.seq ?_
  refine TC.heap (M' := (rgO gb c rb (some ⟨nb, 0, none⟩) N cn (some ⟨ob, 0, none⟩) N co :: rrO rb c.seed c.grace lg ls N :: (lg, row 3 (gens ones)) :: (ls, row 2 (sinces ones)) :: (nb, row 76 (nws.map pp ++ sn)) :: (ob, row 76 (ols.map pp ++ so)) :: ((bt, .cells #[.int .u64 (get8 tl 0 : Nat), .int .u64 (get8 tl 8 : Nat)] 98 (0, 0)) :: (bs, .cells #[.int .i64 kind, .int .i64 ((k : Nat) : Int), .int .i64 gen, .int .i64 sq, .int .i64 ep, .int .i64 va, .int .i64 me] 39 (0, 0)) :: (b1, .cells #[.int .i64 0, .int .i64 0, .int .i64 0, .int .i64 0, .int .i64 0, .int .i64 0, .int .i64 0] 39 (0, 0)) :: T))) (fun w h => ro_mv (A := [_, _, _]) (L := [_, _, _, _, _, _]) w h) ?_
  refine TC.drawLM mixed 22 ?_
  refine TA.tk 0 1 rfl rfl rfl (Val.fieldAddr rfl fl39_1 sz3 rfl) ?_
  refine TA.tk 1 3 rfl rfl rfl (Val.load 7 rfl ag3 rfl rfl) ?_
  refine TA.tk 2 7 rfl rfl rfl (Val.move rfl) ?_
  refine TA.tk 3 15 rfl rfl rfl (Val.nilCheck rfl) ?_
  refine TA.tk 4 31 rfl rfl rfl (Val.fieldAddr rfl fl71_0 sz26 rfl) ?_
  refine TA.tk 5 63 rfl rfl rfl (Val.fieldAddr rfl fl26_0 sz3 rfl) ?_
  refine TA.tk 6 127 rfl rfl rfl (Val.load 0 rfl ag3 rfl rfl) ?_
  refine TA.tk 7 255 rfl rfl rfl (Val.geq rfl rfl) ?_
  refine TA.tk 8 511 rfl rfl rfl (Val.move rfl) ?_
  refine TA.gen (fun g3 hg3 => ?_)
  cases g3 with
  | false =>
   refine TA.tkY 9 1023 rfl rfl rfl rfl rfl (Val.fieldAddr rfl fl39_1 sz3 rfl) ?_
   refine TA.tkY 10 2047 rfl rfl rfl rfl rfl (Val.load 7 rfl ag3 rfl rfl) ?_
   refine TA.tkY 11 4095 rfl rfl rfl rfl rfl (Val.move rfl) ?_
   refine TA.tkY 12 8191 rfl rfl rfl rfl rfl (Val.lenSl rfl rfl sl103) ?_
   refine TA.tkY 13 16383 rfl rfl rfl rfl rfl (Val.lss rfl rfl) ?_
   refine TA.tkY 14 32767 rfl rfl rfl rfl rfl (Val.move rfl) ?_
   refine TA.gen (fun g4 hg4 => ?_)
   cases g4 with
   | false =>
    refine TA.tkP 15 65535 rfl rfl rfl rfl rfl rfl ?_
    refine TA.tkP 16 131071 rfl rfl rfl rfl rfl rfl ?_
    refine TA.tkP 17 262143 rfl rfl rfl rfl rfl rfl ?_
    refine TA.tkP 18 524287 rfl rfl rfl rfl rfl rfl ?_
    refine TA.tkP 19 1048575 rfl rfl rfl rfl rfl rfl ?_
    refine TA.tkY 20 2097151 rfl rfl rfl rfl rfl (Val.pick rfl rfl rfl) ?_
    refine TA.tk 21 4194303 rfl rfl rfl (Val.pickOr rfl rfl rfl) ?_
    refine TA.done (by kernel_rfl) ?_
    refine AtX.then ?_
    refine TC.en (E' := [(0, _), (2, _), (8, _), (9, _), (10, _), (11, _), (12, _), (49, _)]) ?_
    refine TC.cond rfl (fun c2 => ?_) (fun c2 => ?_)
    ·
     (exfalso; grind)
    ·
     refine TC.skip ?_
     refine AtX.then ?_
     refine TC.sr ?_
     refine TL.v (Val.move rfl) ?_
     refine TL.v (Val.loadAgg 7 rfl ag39 sz39 rfl rfl rfl) ?_
     refine TL.v (Val.move rfl) ?_
     refine TL.d (Does.callF go41 rfl (rgKey_no gb rb lg ls nb cn ob co sn so c N ones nws ols _ hN h1 h2 h3 hgr k x hx hxb hxs kind gen sq ep va me hgen hk2 now hok)) ?_
     rintro _ _ ⟨rfl, rfl⟩
     refine TL.v (Val.move rfl) ?_
     refine TL.v (Val.extract rfl rfl) ?_
     refine TL.v (Val.extract rfl rfl) ?_
     refine TL.v (Val.extract rfl rfl) ?_
     refine TL.d (Does.alloc ze57 rfl) ?_
     rintro _ _ ⟨bk, rfl, rfl⟩
     refine TL.heap (M' := (rgO gb c rb (some ⟨nb, 0, none⟩) N cn (some ⟨ob, 0, none⟩) N co :: rrO rb c.seed c.grace lg ls N :: (lg, row 3 (gens ones)) :: (ls, row 2 (sinces ones)) :: (nb, row 76 (nws.map pp ++ sn)) :: (ob, row 76 (ols.map pp ++ so)) :: ((bk, .cells #[.int .u64 0, .int .u64 0] 57 (0, 0)) :: (bt, .cells #[.int .u64 (get8 tl 0 : Nat), .int .u64 (get8 tl 8 : Nat)] 98 (0, 0)) :: (bs, .cells #[.int .i64 kind, .int .i64 ((k : Nat) : Int), .int .i64 gen, .int .i64 sq, .int .i64 ep, .int .i64 va, .int .i64 me] 39 (0, 0)) :: (b1, .cells #[.int .i64 0, .int .i64 0, .int .i64 0, .int .i64 0, .int .i64 0, .int .i64 0, .int .i64 0] 39 (0, 0)) :: T))) (fun w h => ro_mv (A := [_]) (L := [_, _, _, _, _, _]) w h) ?_
     refine TL.d (Does.store (i := 6) rfl rfl rfl sz57 rfl rfl (by first | exact Nat.le_of_ble_eq_true rfl | decide | omega) rfl rfl) ?_
     rintro _ _ ⟨rfl, rfl⟩
     refine TL.v (Val.assign rfl) ?_
     refine TL.v (Val.assign rfl) ?_
     refine TL.nt ?_
     refine TC.en (E' := [(0, _), (2, _), (8, _), (9, _), (10, _), (11, _), (12, _), (14, _), (15, _), (16, _)]) ?_
     refine TC.seq ?_
     refine TC.block ?_
     refine TC.sr ?_
     refine TL.v (Val.move rfl) ?_
     refine TL.v (Val.neqI rfl rfl) ?_
     refine TL.v (Val.assign rfl) ?_
     refine TL.nt ?_
     refine TC.condP rfl (fun c3 => ?_) (fun c3 => ?_)
     ·
      refine TC.en (E' := [(8, _), (9, _), (10, _), (16, _)]) ?_
      refine TC.sr ?_
      refine TL.v (Val.buildS pl39 ze39 rfl rfl) ?_
      refine TL.v (Val.move rfl) ?_
      refine TL.d (Does.store (i := 9) rfl rfl rfl sz39 rfl rfl (by first | exact Nat.le_of_ble_eq_true rfl | decide | omega) rfl rfl) ?_
      rintro _ _ ⟨rfl, rfl⟩
      refine TL.v (Val.assign rfl) ?_
      refine TL.nt ?_
      refine TC.r2 (hM := (fun w h => (ro_mv (A := [_, _, _, _, _, _]) (L := [_, _, _, _]) w h).drop.drop.drop.drop)) (M' := (rgO gb c rb (some ⟨nb, 0, none⟩) N cn (some ⟨ob, 0, none⟩) N co :: rrO rb c.seed c.grace lg ls N :: (lg, row 3 (gens ones)) :: (ls, row 2 (sinces ones)) :: (nb, row 76 (nws.map pp ++ sn)) :: (ob, row 76 (ols.map pp ++ so)) :: T)) (fn := Tryz.f11) (fun _ _ h => h) rfl (RV.agg (i := 9) rfl ag39 sz39 rfl rfl rfl) (RV.tmp rfl) ?_
      exact ⟨rfl, rfl⟩
     ·
      first | exact absurd rfl c3 | (exfalso; simp at c3) | exact absurd c3 (by decide)
   | true =>
    (exfalso; grind)
  | true =>
   (exfalso; grind)

end Go.Proofs.YtphoapajlcaoeaaGreat
/- walks -/
set_option linter.unusedVariables false
set_option linter.unusedSimpArgs false
set_option maxRecDepth 100000
set_option maxHeartbeats 4000000
namespace Go.Proofs.YtphoapajlcaoeaaGreat
open Go Go.X
/-- (*quorumite/quorumiteref5.Gate).Check -/
theorem rCheck_ok (gb rb lg ls nb cn ob co : Nat) (sn so : List Value) (c : Cf) (N : Nat) (ones : List On) (nws ols : List Nat) (T : Hp) (hN : c.n = N) (h1 : ones.length = N) (h2 : nws.length = N) (h3 : ols.length = N) (hgr : 1 ≤ c.grace ∧ c.grace ≤ 100) (k : Nat) (x : On) (hx : ones[k]? = some x) (hxb : 0 ≤ x.gen ∧ x.gen ≤ 60000) (hxs : 0 ≤ x.since ∧ x.since ≤ 1099511627776) (kind gen sq ep va me : Int) (hgen : -1000000 ≤ gen ∧ gen ≤ 1000000) (hk2 : kind = 2 → gen - 1 = x.gen) (now : Int) (tl : List UInt8) (htl : tl.length = 16) (hm : mayM ⟨kind, (k : Nat), gen, sq, ep, va, me⟩ = true) (hc : OkC c) (hok : okK x (sgen kind gen) now c.grace = true) (p p2 : Nat) (hp : nws[k]? = some p) (hp2 : ols[k]? = some p2) (ip : Nat) (top : Int) (htop : 0 ≤ top ∧ top ≤ 1099511627776) (A : Option Addr) (nR cR : Nat) (hrep : T[ip]? = some (rpO (if sgen kind gen = x.gen then p else p2) c.window top A nR cR)) (l : List Int) (hA : RdS T A (l.map (Value.int .i64))) (hn2 : nR = l.length) (hl : l.length ≤ 100000) (hnow : 0 ≤ now ∧ now ≤ 1099511627776)  : FnC Tryz.prog 11 #[.pointer (some ⟨gb, 0, none⟩), .string (ofL (putM ⟨kind, (k : Nat), gen, sq, ep, va, me⟩ ++ tl)), .int .i64 now, .slice none 0 0] (rgO gb c rb (some ⟨nb, 0, none⟩) N cn (some ⟨ob, 0, none⟩) N co :: rrO rb c.seed c.grace lg ls N :: (lg, row 3 (gens ones)) :: (ls, row 2 (sinces ones)) :: (nb, row 76 (nws.map pp ++ sn)) :: (ob, row 76 (ols.map pp ++ so)) :: T) (fun v M' => ((chkC true (decide ((tagOf (macKey c.seed (k : Nat) (sgen kind gen)) (putM ⟨kind, (k : Nat), gen, sq, ep, va, me⟩)).a = (get8 tl 0 : Nat)) && decide ((tagOf (macKey c.seed (k : Nat) (sgen kind gen)) (putM ⟨kind, (k : Nat), gen, sq, ep, va, me⟩)).b = (get8 tl 8 : Nat))) (decide (top - c.window < sq) && !decide (sq ∈ l)) (decide (ep < now) || decide (c.fresh ≤ IntKind.u64.wrap (ep - now))) (decide (me < c.m))) = 0 ∧ v = .tuple #[.agg #[.int .i64 kind, .int .i64 ((k : Nat) : Int), .int .i64 gen, .int .i64 sq, .int .i64 ep, .int .i64 va, .int .i64 me], .int .i64 0] ∧ (rgO gb c rb (some ⟨nb, 0, none⟩) N cn (some ⟨ob, 0, none⟩) N co :: rrO rb c.seed c.grace lg ls N :: (lg, row 3 (gens ones)) :: (ls, row 2 (sinces ones)) :: (nb, row 76 (nws.map pp ++ sn)) :: (ob, row 76 (ols.map pp ++ so)) :: T) = M') ∨ ((chkC true (decide ((tagOf (macKey c.seed (k : Nat) (sgen kind gen)) (putM ⟨kind, (k : Nat), gen, sq, ep, va, me⟩)).a = (get8 tl 0 : Nat)) && decide ((tagOf (macKey c.seed (k : Nat) (sgen kind gen)) (putM ⟨kind, (k : Nat), gen, sq, ep, va, me⟩)).b = (get8 tl 8 : Nat))) (decide (top - c.window < sq) && !decide (sq ∈ l)) (decide (ep < now) || decide (c.fresh ≤ IntKind.u64.wrap (ep - now))) (decide (me < c.m))) ≠ 0 ∧ v = .tuple #[.agg #[.int .i64 0, .int .i64 0, .int .i64 0, .int .i64 0, .int .i64 0, .int .i64 0, .int .i64 0], .int .i64 (chkC true (decide ((tagOf (macKey c.seed (k : Nat) (sgen kind gen)) (putM ⟨kind, (k : Nat), gen, sq, ep, va, me⟩)).a = (get8 tl 0 : Nat)) && decide ((tagOf (macKey c.seed (k : Nat) (sgen kind gen)) (putM ⟨kind, (k : Nat), gen, sq, ep, va, me⟩)).b = (get8 tl 8 : Nat))) (decide (top - c.window < sq) && !decide (sq ∈ l)) (decide (ep < now) || decide (c.fresh ≤ IntKind.u64.wrap (ep - now))) (decide (me < c.m)))] ∧ (rgO gb c rb (some ⟨nb, 0, none⟩) N cn (some ⟨ob, 0, none⟩) N co :: rrO rb c.seed c.grace lg ls N :: (lg, row 3 (gens ones)) :: (ls, row 2 (sinces ones)) :: (nb, row 76 (nws.map pp ++ sn)) :: (ob, row 76 (ols.map pp ++ so)) :: T) = M')) := by
 have hkN : k < N := by rw [← h1]; exact (List.getElem?_eq_some_iff.1 hx).1
 have hfr := hc.fresh
 have hwin := hc.window
 have hmi := mayM_iff.1 hm
 simp only at hmi
 obtain ⟨C, hC⟩ : ∃ C, C = chkC true (decide ((tagOf (macKey c.seed (k : Nat) (sgen kind gen)) (putM ⟨kind, (k : Nat), gen, sq, ep, va, me⟩)).a = (get8 tl 0 : Nat)) && decide ((tagOf (macKey c.seed (k : Nat) (sgen kind gen)) (putM ⟨kind, (k : Nat), gen, sq, ep, va, me⟩)).b = (get8 tl 8 : Nat))) (decide (top - c.window < sq) && !decide (sq ∈ l)) (decide (ep < now) || decide (c.fresh ≤ IntKind.u64.wrap (ep - now))) (decide (me < c.m)) := ⟨_, rfl⟩
 rw [← hC]
 obtain ⟨sm, hsm⟩ : ∃ sm, sm = (decide ((tagOf (macKey c.seed (k : Nat) (sgen kind gen)) (putM ⟨kind, (k : Nat), gen, sq, ep, va, me⟩)).a = (get8 tl 0 : Nat)) && decide ((tagOf (macKey c.seed (k : Nat) (sgen kind gen)) (putM ⟨kind, (k : Nat), gen, sq, ep, va, me⟩)).b = (get8 tl 8 : Nat))) := ⟨_, rfl⟩
 rw [← hsm] at hC
 obtain ⟨mq, hmq⟩ : ∃ mq, mq = (decide (top - c.window < sq) && !decide (sq ∈ l)) := ⟨_, rfl⟩
 rw [← hmq] at hC
 refine FnC.intro Tryz.func11 rfl 110 rfl (by simp) (fun z => ?_)
 refine TC.en (E' := [(0, _), (1, _), (2, _), (3, _)]) ?_
 refine TC.sr ?_
 refine TL.d (Does.alloc ze39 rfl) ?_
 rintro _ _ ⟨b1, rfl, rfl⟩
 refine TL.v (Val.assign rfl) ?_
 refine TL.nt ?_
 refine TC.sr ?_
 refine TL.v (Val.move rfl) ?_
 refine TL.d (Does.callF go40 rfl (refSplit_yes ⟨kind, (k : Nat), gen, sq, ep, va, me⟩ tl _ hm htl)) ?_
 rintro _ _ ⟨rfl, rfl⟩
 refine TL.v (Val.move rfl) ?_
 refine TL.v (Val.extract rfl rfl) ?_
 refine TL.v (Val.extract rfl rfl) ?_
 refine TL.v (Val.extract rfl rfl) ?_
 refine TL.v (Val.extract rfl rfl) ?_
 refine TL.d (Does.alloc ze39 rfl) ?_
 rintro _ _ ⟨bs, rfl, rfl⟩
 refine TL.d (Does.alloc ze98 rfl) ?_
 rintro _ _ ⟨bt, rfl, rfl⟩
 refine TL.d (Does.store (i := 1) rfl rfl rfl sz39 rfl rfl (by first | exact Nat.le_of_ble_eq_true rfl | decide | omega) rfl rfl) ?_
 rintro _ _ ⟨rfl, rfl⟩
 refine TL.v (Val.assign rfl) ?_
 refine TL.d (Does.store (i := 0) rfl rfl rfl sz98 rfl rfl (by first | exact Nat.le_of_ble_eq_true rfl | decide | omega) rfl rfl) ?_
 rintro _ _ ⟨rfl, rfl⟩
 refine TL.v (Val.assign rfl) ?_
 refine TL.nt ?_
 refine TC.en (E' := [(0, _), (2, _), (3, _), (8, _), (9, _), (10, _), (11, _), (12, _), (13, _)]) ?_
 refine TC.seq ?_
 refine TC.sr ?_
 refine TL.v (Val.move rfl) ?_
 refine TL.v (Val.neqI rfl rfl) ?_
 refine TL.nt ?_
 refine TC.condP rfl (fun c1 => ?_) (fun c1 => ?_)
 ·
  exact absurd rfl c1
 ·
  refine TC.skip ?_
  refine AtX.then ?_
  refine TC.seq ?_
  refine TC.seq ?_
  refine TC.heap (M' := (rgO gb c rb (some ⟨nb, 0, none⟩) N cn (some ⟨ob, 0, none⟩) N co :: rrO rb c.seed c.grace lg ls N :: (lg, row 3 (gens ones)) :: (ls, row 2 (sinces ones)) :: (nb, row 76 (nws.map pp ++ sn)) :: (ob, row 76 (ols.map pp ++ so)) :: ((bt, .cells #[.int .u64 (get8 tl 0 : Nat), .int .u64 (get8 tl 8 : Nat)] 98 (0, 0)) :: (bs, .cells #[.int .i64 kind, .int .i64 ((k : Nat) : Int), .int .i64 gen, .int .i64 sq, .int .i64 ep, .int .i64 va, .int .i64 me] 39 (0, 0)) :: (b1, .cells #[.int .i64 0, .int .i64 0, .int .i64 0, .int .i64 0, .int .i64 0, .int .i64 0, .int .i64 0] 39 (0, 0)) :: T))) (fun w h => ro_mv (A := [_, _, _]) (L := [_, _, _, _, _, _]) w h) ?_
  refine TC.drawLM mixed 22 ?_
  refine TA.tk 0 1 rfl rfl rfl (Val.fieldAddr rfl fl39_1 sz3 rfl) ?_
  refine TA.tk 1 3 rfl rfl rfl (Val.load 7 rfl ag3 rfl rfl) ?_
  refine TA.tk 2 7 rfl rfl rfl (Val.move rfl) ?_
  refine TA.tk 3 15 rfl rfl rfl (Val.nilCheck rfl) ?_
  refine TA.tk 4 31 rfl rfl rfl (Val.fieldAddr rfl fl71_0 sz26 rfl) ?_
  refine TA.tk 5 63 rfl rfl rfl (Val.fieldAddr rfl fl26_0 sz3 rfl) ?_
  refine TA.tk 6 127 rfl rfl rfl (Val.load 0 rfl ag3 rfl rfl) ?_
  refine TA.tk 7 255 rfl rfl rfl (Val.geq rfl rfl) ?_
  refine TA.tk 8 511 rfl rfl rfl (Val.move rfl) ?_
  refine TA.gen (fun g3 hg3 => ?_)
  cases g3 with
  | false =>
   refine TA.tkY 9 1023 rfl rfl rfl rfl rfl (Val.fieldAddr rfl fl39_1 sz3 rfl) ?_
   refine TA.tkY 10 2047 rfl rfl rfl rfl rfl (Val.load 7 rfl ag3 rfl rfl) ?_
   refine TA.tkY 11 4095 rfl rfl rfl rfl rfl (Val.move rfl) ?_
   refine TA.tkY 12 8191 rfl rfl rfl rfl rfl (Val.lenSl rfl rfl sl103) ?_
   refine TA.tkY 13 16383 rfl rfl rfl rfl rfl (Val.lss rfl rfl) ?_
   refine TA.tkY 14 32767 rfl rfl rfl rfl rfl (Val.move rfl) ?_
   refine TA.gen (fun g4 hg4 => ?_)
   cases g4 with
   | false =>
    refine TA.tkP 15 65535 rfl rfl rfl rfl rfl rfl ?_
    refine TA.tkP 16 131071 rfl rfl rfl rfl rfl rfl ?_
    refine TA.tkP 17 262143 rfl rfl rfl rfl rfl rfl ?_
    refine TA.tkP 18 524287 rfl rfl rfl rfl rfl rfl ?_
    refine TA.tkP 19 1048575 rfl rfl rfl rfl rfl rfl ?_
    refine TA.tkY 20 2097151 rfl rfl rfl rfl rfl (Val.pick rfl rfl rfl) ?_
    refine TA.tk 21 4194303 rfl rfl rfl (Val.pickOr rfl rfl rfl) ?_
    refine TA.done (by kernel_rfl) ?_
    refine AtX.then ?_
    refine TC.en (E' := [(0, _), (2, _), (8, _), (9, _), (10, _), (11, _), (12, _), (49, _)]) ?_
    refine TC.cond rfl (fun c2 => ?_) (fun c2 => ?_)
    ·
     (exfalso; grind)
    ·
     refine TC.skip ?_
     refine AtX.then ?_
     refine TC.sr ?_
     refine TL.v (Val.move rfl) ?_
     refine TL.v (Val.loadAgg 7 rfl ag39 sz39 rfl rfl rfl) ?_
     refine TL.v (Val.move rfl) ?_
     refine TL.d (Does.callF go41 rfl (rgKey_yes gb rb lg ls nb cn ob co sn so c N ones nws ols _ hN h1 h2 h3 hgr k x hx hxb hxs kind gen sq ep va me hgen hk2 now p p2 hp hp2 hok)) ?_
     rintro _ _ ⟨rfl, rfl⟩
     refine TL.v (Val.move rfl) ?_
     refine TL.v (Val.extract rfl rfl) ?_
     refine TL.v (Val.extract rfl rfl) ?_
     refine TL.v (Val.extract rfl rfl) ?_
     refine TL.d (Does.alloc ze57 rfl) ?_
     rintro _ _ ⟨bk, rfl, rfl⟩
     refine TL.heap (M' := (rgO gb c rb (some ⟨nb, 0, none⟩) N cn (some ⟨ob, 0, none⟩) N co :: rrO rb c.seed c.grace lg ls N :: (lg, row 3 (gens ones)) :: (ls, row 2 (sinces ones)) :: (nb, row 76 (nws.map pp ++ sn)) :: (ob, row 76 (ols.map pp ++ so)) :: ((bk, .cells #[.int .u64 0, .int .u64 0] 57 (0, 0)) :: (bt, .cells #[.int .u64 (get8 tl 0 : Nat), .int .u64 (get8 tl 8 : Nat)] 98 (0, 0)) :: (bs, .cells #[.int .i64 kind, .int .i64 ((k : Nat) : Int), .int .i64 gen, .int .i64 sq, .int .i64 ep, .int .i64 va, .int .i64 me] 39 (0, 0)) :: (b1, .cells #[.int .i64 0, .int .i64 0, .int .i64 0, .int .i64 0, .int .i64 0, .int .i64 0, .int .i64 0] 39 (0, 0)) :: T))) (fun w h => ro_mv (A := [_]) (L := [_, _, _, _, _, _]) w h) ?_
     refine TL.d (Does.store (i := 6) rfl rfl rfl sz57 rfl rfl (by first | exact Nat.le_of_ble_eq_true rfl | decide | omega) rfl rfl) ?_
     rintro _ _ ⟨rfl, rfl⟩
     refine TL.v (Val.assign rfl) ?_
     refine TL.v (Val.assign rfl) ?_
     refine TL.nt ?_
     refine TC.en (E' := [(0, _), (2, _), (8, _), (9, _), (10, _), (11, _), (12, _), (14, _), (15, _), (16, _)]) ?_
     refine TC.seq ?_
     refine TC.block ?_
     refine TC.sr ?_
     refine TL.v (Val.move rfl) ?_
     refine TL.v (Val.neqI rfl rfl) ?_
     refine TL.v (Val.assign rfl) ?_
     refine TL.nt ?_
     refine TC.condP rfl (fun c3 => ?_) (fun c3 => ?_)
     ·
      refine TC.en (E' := [(8, _), (9, _), (10, _), (16, _)]) ?_
      refine TC.sr ?_
      refine TL.v (Val.buildS pl39 ze39 rfl rfl) ?_
      refine TL.v (Val.move rfl) ?_
      refine TL.d (Does.store (i := 9) rfl rfl rfl sz39 rfl rfl (by first | exact Nat.le_of_ble_eq_true rfl | decide | omega) rfl rfl) ?_
      rintro _ _ ⟨rfl, rfl⟩
      refine TL.v (Val.assign rfl) ?_
      refine TL.nt ?_
      refine TC.r2 (hM := (fun w h => (ro_mv (A := [_, _, _, _, _, _]) (L := [_, _, _, _]) w h).drop.drop.drop.drop)) (M' := (rgO gb c rb (some ⟨nb, 0, none⟩) N cn (some ⟨ob, 0, none⟩) N co :: rrO rb c.seed c.grace lg ls N :: (lg, row 3 (gens ones)) :: (ls, row 2 (sinces ones)) :: (nb, row 76 (nws.map pp ++ sn)) :: (ob, row 76 (ols.map pp ++ so)) :: T)) (fn := Tryz.f11) (fun _ _ h => h) rfl (RV.agg (i := 9) rfl ag39 sz39 rfl rfl rfl) (RV.tmp rfl) ?_
      first | refine .inl ⟨?_, rfl, rfl⟩ | refine .inr ⟨?_, congrArg (fun n => Value.tuple #[.agg #[.int .i64 0, .int .i64 0, .int .i64 0, .int .i64 0, .int .i64 0, .int .i64 0, .int .i64 0], .int .i64 n]) ?_, rfl⟩
      all_goals rw [hC]
      all_goals clear hC hsm hmq hN h1 h2 h3 hgr hx hxb hxs hgen hk2 htl hm hc hok hp hp2 htop hrep hA hn2 hl hnow hkN hfr hwin hmi
      all_goals generalize IntKind.u64.wrap (ep - now) = o4 at *
      all_goals unfold chkC
      all_goals cases sm <;> cases mq <;> first | grind | trace_state
     ·
      refine TC.seq ?_
      refine TC.drawLM mixed 6 ?_
      refine TA.tk 0 1 rfl rfl rfl (Val.loadAgg 6 rfl ag57 sz57 rfl rfl rfl) ?_
      refine TA.tk 1 3 rfl rfl rfl (Val.move rfl) ?_
      refine TA.tk 3 11 rfl rfl rfl (Val.loadAgg 7 rfl ag98 sz98 rfl rfl rfl) ?_
      refine TA.one 2 (by kernel_rfl) ?_
      refine TO.dz 15 (some 67) rfl rfl rfl rfl (Does.callF go42 rfl (refTag_fn (macKey c.seed (k : Nat) (sgen kind gen)) (putM ⟨kind, (k : Nat), gen, sq, ep, va, me⟩) _ (by simp))) ?_
      rintro _ _ ⟨rfl, rfl⟩
      refine roK ?_
      refine TA.tk 4 31 rfl rfl rfl (Val.same (v' := .bool (!sm)) (Val.neqG rfl rfl (by kernel_rfl) (EqV.arr2 ar98 sz24 ag24 in24) (by decide)) (by rw [hsm])) ?_
      refine TA.tk 5 63 rfl rfl rfl (Val.assign rfl) ?_
      refine TA.done (by kernel_rfl) ?_
      refine AtX.then ?_
      refine TC.en (E' := [(0, _), (2, _), (8, _), (9, _), (10, _), (15, _), (64, _)]) ?_
      refine TC.condB rfl (fun c4 => ?_) (fun c4 => ?_)
      ·
       refine TC.sr ?_
       refine TL.v (Val.buildS pl39 ze39 rfl rfl) ?_
       refine TL.d (Does.store (i := 9) rfl rfl rfl sz39 rfl rfl (by first | exact Nat.le_of_ble_eq_true rfl | decide | omega) rfl rfl) ?_
       rintro _ _ ⟨rfl, rfl⟩
       refine TL.v (Val.assign rfl) ?_
       refine TL.nt ?_
       refine TC.r2 (hM := (fun w h => (ro_mv (A := [_, _, _, _, _, _]) (L := [_, _, _, _]) w h).drop.drop.drop.drop)) (M' := (rgO gb c rb (some ⟨nb, 0, none⟩) N cn (some ⟨ob, 0, none⟩) N co :: rrO rb c.seed c.grace lg ls N :: (lg, row 3 (gens ones)) :: (ls, row 2 (sinces ones)) :: (nb, row 76 (nws.map pp ++ sn)) :: (ob, row 76 (ols.map pp ++ so)) :: T)) (fn := Tryz.f11) (fun _ _ h => h) rfl (RV.agg (i := 9) rfl ag39 sz39 rfl rfl rfl) (RV.tmp rfl) ?_
       first | refine .inl ⟨?_, rfl, rfl⟩ | refine .inr ⟨?_, congrArg (fun n => Value.tuple #[.agg #[.int .i64 0, .int .i64 0, .int .i64 0, .int .i64 0, .int .i64 0, .int .i64 0, .int .i64 0], .int .i64 n]) ?_, rfl⟩
       all_goals rw [hC]
       all_goals clear hC hsm hmq hN h1 h2 h3 hgr hx hxb hxs hgen hk2 htl hm hc hok hp hp2 htop hrep hA hn2 hl hnow hkN hfr hwin hmi
       all_goals generalize IntKind.u64.wrap (ep - now) = o4 at *
       all_goals unfold chkC
       all_goals cases sm <;> cases mq <;> first | grind | trace_state
      ·
       refine TC.sr ?_
       refine TL.v (Val.move rfl) ?_
       refine TL.v (Val.fieldAddr rfl fl39_3 sz2 rfl) ?_
       refine TL.v (Val.load 8 rfl ag2 rfl rfl) ?_
       refine TL.d (Does.callF go43 rfl (rMay_fn (if sgen kind gen = x.gen then p else p2) (ip + 10) c.window top A nR cR _ hrep l (by repeat (first | exact hA | apply RdS.cons)) hn2 hl sq ⟨by omega, by omega⟩ hwin htop)) ?_
       rintro _ _ ⟨rfl, rfl⟩
       rw [← hmq]
       refine TL.v (Val.not rfl) ?_
       refine TL.v (Val.assign rfl) ?_
       refine TL.nt ?_
       refine TC.condB rfl (fun c5 => ?_) (fun c5 => ?_)
       ·
        refine TC.en (E' := [(8, _), (9, _), (10, _)]) ?_
        refine TC.sr ?_
        refine TL.v (Val.buildS pl39 ze39 rfl rfl) ?_
        refine TL.d (Does.store (i := 9) rfl rfl rfl sz39 rfl rfl (by first | exact Nat.le_of_ble_eq_true rfl | decide | omega) rfl rfl) ?_
        rintro _ _ ⟨rfl, rfl⟩
        refine TL.v (Val.assign rfl) ?_
        refine TL.nt ?_
        refine TC.r2 (hM := (fun w h => (ro_mv (A := [_, _, _, _, _, _]) (L := [_, _, _, _]) w h).drop.drop.drop.drop)) (M' := (rgO gb c rb (some ⟨nb, 0, none⟩) N cn (some ⟨ob, 0, none⟩) N co :: rrO rb c.seed c.grace lg ls N :: (lg, row 3 (gens ones)) :: (ls, row 2 (sinces ones)) :: (nb, row 76 (nws.map pp ++ sn)) :: (ob, row 76 (ols.map pp ++ so)) :: T)) (fn := Tryz.f11) (fun _ _ h => h) rfl (RV.agg (i := 9) rfl ag39 sz39 rfl rfl rfl) (RV.tmp rfl) ?_
        first | refine .inl ⟨?_, rfl, rfl⟩ | refine .inr ⟨?_, congrArg (fun n => Value.tuple #[.agg #[.int .i64 0, .int .i64 0, .int .i64 0, .int .i64 0, .int .i64 0, .int .i64 0, .int .i64 0], .int .i64 n]) ?_, rfl⟩
        all_goals rw [hC]
        all_goals clear hC hsm hmq hN h1 h2 h3 hgr hx hxb hxs hgen hk2 htl hm hc hok hp hp2 htop hrep hA hn2 hl hnow hkN hfr hwin hmi
        all_goals generalize IntKind.u64.wrap (ep - now) = o4 at *
        all_goals unfold chkC
        all_goals cases sm <;> cases mq <;> first | grind | trace_state
       ·
        refine TC.en (E' := [(0, _), (2, _), (8, _), (9, _), (10, _)]) ?_
        refine TC.seq ?_
        refine TC.drawLM mixed 20 ?_
        refine TA.tk 0 1 rfl rfl rfl (Val.fieldAddr rfl fl39_4 sz2 rfl) ?_
        refine TA.tk 1 3 rfl rfl rfl (Val.load 8 rfl ag2 rfl rfl) ?_
        refine TA.tk 2 7 rfl rfl rfl (Val.move rfl) ?_
        refine TA.tk 3 15 rfl rfl rfl (Val.lss rfl rfl) ?_
        refine TA.tk 4 31 rfl rfl rfl (Val.move rfl) ?_
        refine TA.gen (fun g8 hg8 => ?_)
        refine TA.gtk 5 63 rfl rfl rfl rfl rfl (fun hg => by subst hg; exact (Val.fieldAddr rfl fl39_4 sz2 rfl)) ?_
        refine TA.gtk 6 127 rfl rfl rfl rfl rfl (fun hg => by subst hg; exact (Val.load 8 rfl ag2 rfl rfl)) ?_
        refine TA.gtk 7 255 rfl rfl rfl rfl rfl (fun hg => by subst hg; exact (Val.convI rfl iu2 in24 (r := ep) (w_u64 (by omega) (by omega)))) ?_
        refine TA.gtk 8 511 rfl rfl rfl rfl rfl (fun hg => by subst hg; exact (Val.move rfl)) ?_
        refine TA.gtk 9 1023 rfl rfl rfl rfl rfl (fun hg => by subst hg; exact (Val.convI rfl iu2 in24 (r := now) (w_u64 (by omega) (by omega)))) ?_
        refine TA.gtk 10 2047 rfl rfl rfl rfl rfl (fun hg => by subst hg; exact (Val.sub rfl rfl (r := IntKind.u64.wrap (ep - now)) rfl)) ?_
        refine TA.gtk 11 4095 rfl rfl rfl rfl rfl (fun hg => by subst hg; exact (Val.move rfl)) ?_
        refine TA.gtk 12 8191 rfl rfl rfl rfl rfl (fun hg => by subst hg; exact (Val.nilCheck rfl)) ?_
        refine TA.gtk 13 16383 rfl rfl rfl rfl rfl (fun hg => by subst hg; exact (Val.fieldAddr rfl fl71_0 sz26 rfl)) ?_
        refine TA.gtk 14 32767 rfl rfl rfl rfl rfl (fun hg => by subst hg; exact (Val.fieldAddr rfl fl26_4 sz3 rfl)) ?_
        refine TA.gtk 15 65535 rfl rfl rfl rfl rfl (fun hg => by subst hg; exact (Val.load 0 rfl ag3 rfl rfl)) ?_
        refine TA.gtk 16 131071 rfl rfl rfl rfl rfl (fun hg => by subst hg; exact (Val.convI rfl iu3 in24 (r := c.fresh) (w_u64 (by omega) (by omega)))) ?_
        refine TA.gtk 17 262143 rfl rfl rfl rfl rfl (fun hg => by subst hg; exact (Val.geq rfl rfl)) ?_
        refine TA.tk 18 524287 rfl rfl rfl (Val.pickOr rfl rfl rfl) ?_
        refine TA.tk 19 1048575 rfl rfl rfl (Val.assign rfl) ?_
        refine TA.done (by kernel_rfl) ?_
        refine AtX.then ?_
        refine TC.en (E' := [(0, _), (8, _), (9, _), (10, _), (78, _)]) ?_
        refine TC.cond rfl (fun c6 => ?_) (fun c6 => ?_)
        ·
         refine TC.sr ?_
         refine TL.v (Val.buildS pl39 ze39 rfl rfl) ?_
         refine TL.d (Does.store (i := 9) rfl rfl rfl sz39 rfl rfl (by first | exact Nat.le_of_ble_eq_true rfl | decide | omega) rfl rfl) ?_
         rintro _ _ ⟨rfl, rfl⟩
         refine TL.v (Val.assign rfl) ?_
         refine TL.nt ?_
         refine TC.r2 (hM := (fun w h => (ro_mv (A := [_, _, _, _, _, _]) (L := [_, _, _, _]) w h).drop.drop.drop.drop)) (M' := (rgO gb c rb (some ⟨nb, 0, none⟩) N cn (some ⟨ob, 0, none⟩) N co :: rrO rb c.seed c.grace lg ls N :: (lg, row 3 (gens ones)) :: (ls, row 2 (sinces ones)) :: (nb, row 76 (nws.map pp ++ sn)) :: (ob, row 76 (ols.map pp ++ so)) :: T)) (fn := Tryz.f11) (fun _ _ h => h) rfl (RV.agg (i := 9) rfl ag39 sz39 rfl rfl rfl) (RV.tmp rfl) ?_
         first | refine .inl ⟨?_, rfl, rfl⟩ | refine .inr ⟨?_, congrArg (fun n => Value.tuple #[.agg #[.int .i64 0, .int .i64 0, .int .i64 0, .int .i64 0, .int .i64 0, .int .i64 0, .int .i64 0], .int .i64 n]) ?_, rfl⟩
         all_goals rw [hC]
         all_goals clear hC hsm hmq hN h1 h2 h3 hgr hx hxb hxs hgen hk2 htl hm hc hok hp hp2 htop hrep hA hn2 hl hnow hkN hfr hwin hmi
         all_goals generalize IntKind.u64.wrap (ep - now) = o4 at *
         all_goals unfold chkC
         all_goals cases sm <;> cases mq <;> first | grind | trace_state
        ·
         refine TC.seq ?_
         refine TC.drawLM mixed 9 ?_
         refine TA.tk 0 1 rfl rfl rfl (Val.fieldAddr rfl fl39_6 sz3 rfl) ?_
         refine TA.tk 1 3 rfl rfl rfl (Val.load 8 rfl ag3 rfl rfl) ?_
         refine TA.tk 2 7 rfl rfl rfl (Val.move rfl) ?_
         refine TA.tk 3 15 rfl rfl rfl (Val.nilCheck rfl) ?_
         refine TA.tk 4 31 rfl rfl rfl (Val.fieldAddr rfl fl71_0 sz26 rfl) ?_
         refine TA.tk 5 63 rfl rfl rfl (Val.fieldAddr rfl fl26_2 sz3 rfl) ?_
         refine TA.tk 6 127 rfl rfl rfl (Val.load 0 rfl ag3 rfl rfl) ?_
         refine TA.tk 7 255 rfl rfl rfl (Val.geq rfl rfl) ?_
         refine TA.tk 8 511 rfl rfl rfl (Val.assign rfl) ?_
         refine TA.done (by kernel_rfl) ?_
         refine AtX.then ?_
         refine TC.en (E' := [(8, _), (9, _), (10, _), (99, _)]) ?_
         refine TC.condP rfl (fun c7 => ?_) (fun c7 => ?_)
         ·
          refine TC.sr ?_
          refine TL.v (Val.buildS pl39 ze39 rfl rfl) ?_
          refine TL.d (Does.store (i := 9) rfl rfl rfl sz39 rfl rfl (by first | exact Nat.le_of_ble_eq_true rfl | decide | omega) rfl rfl) ?_
          rintro _ _ ⟨rfl, rfl⟩
          refine TL.v (Val.assign rfl) ?_
          refine TL.nt ?_
          refine TC.r2 (hM := (fun w h => (ro_mv (A := [_, _, _, _, _, _]) (L := [_, _, _, _]) w h).drop.drop.drop.drop)) (M' := (rgO gb c rb (some ⟨nb, 0, none⟩) N cn (some ⟨ob, 0, none⟩) N co :: rrO rb c.seed c.grace lg ls N :: (lg, row 3 (gens ones)) :: (ls, row 2 (sinces ones)) :: (nb, row 76 (nws.map pp ++ sn)) :: (ob, row 76 (ols.map pp ++ so)) :: T)) (fn := Tryz.f11) (fun _ _ h => h) rfl (RV.agg (i := 9) rfl ag39 sz39 rfl rfl rfl) (RV.tmp rfl) ?_
          first | refine .inl ⟨?_, rfl, rfl⟩ | refine .inr ⟨?_, congrArg (fun n => Value.tuple #[.agg #[.int .i64 0, .int .i64 0, .int .i64 0, .int .i64 0, .int .i64 0, .int .i64 0, .int .i64 0], .int .i64 n]) ?_, rfl⟩
          all_goals rw [hC]
          all_goals clear hC hsm hmq hN h1 h2 h3 hgr hx hxb hxs hgen hk2 htl hm hc hok hp hp2 htop hrep hA hn2 hl hnow hkN hfr hwin hmi
          all_goals generalize IntKind.u64.wrap (ep - now) = o4 at *
          all_goals unfold chkC
          all_goals cases sm <;> cases mq <;> first | grind | trace_state
         ·
          refine TC.skip ?_
          refine AtX.blk ?_
          refine AtX.then ?_
          refine TC.sr ?_
          refine TL.v (Val.loadAgg 8 rfl ag39 sz39 rfl rfl rfl) ?_
          refine TL.d (Does.store (i := 9) rfl rfl rfl sz39 rfl rfl (by first | exact Nat.le_of_ble_eq_true rfl | decide | omega) rfl rfl) ?_
          rintro _ _ ⟨rfl, rfl⟩
          refine TL.v (Val.assign rfl) ?_
          refine TL.nt ?_
          refine TC.r2 (hM := (fun w h => (ro_mv (A := [_, _, _, _, _, _]) (L := [_, _, _, _]) w h).drop.drop.drop.drop)) (M' := (rgO gb c rb (some ⟨nb, 0, none⟩) N cn (some ⟨ob, 0, none⟩) N co :: rrO rb c.seed c.grace lg ls N :: (lg, row 3 (gens ones)) :: (ls, row 2 (sinces ones)) :: (nb, row 76 (nws.map pp ++ sn)) :: (ob, row 76 (ols.map pp ++ so)) :: T)) (fn := Tryz.f11) (fun _ _ h => h) rfl (RV.agg (i := 9) rfl ag39 sz39 rfl rfl rfl) (RV.tmp rfl) ?_
          first | refine .inl ⟨?_, rfl, rfl⟩ | refine .inr ⟨?_, congrArg (fun n => Value.tuple #[.agg #[.int .i64 0, .int .i64 0, .int .i64 0, .int .i64 0, .int .i64 0, .int .i64 0, .int .i64 0], .int .i64 n]) ?_, rfl⟩
          all_goals rw [hC]
          all_goals clear hC hsm hmq hN h1 h2 h3 hgr hx hxb hxs hgen hk2 htl hm hc hok hp hp2 htop hrep hA hn2 hl hnow hkN hfr hwin hmi
          all_goals generalize IntKind.u64.wrap (ep - now) = o4 at *
          all_goals unfold chkC
          all_goals cases sm <;> cases mq <;> first | grind | trace_state
   | true =>
    (exfalso; grind)
  | true =>
   (exfalso; grind)

end Go.Proofs.YtphoapajlcaoeaaGreat
/- walks -/
set_option linter.unusedVariables false
set_option linter.unusedSimpArgs false
set_option maxRecDepth 100000
set_option maxHeartbeats 4000000
namespace Go.Proofs.YtphoapajlcaoeaaGreat
open Go Go.X
def ansC (c : Cf) (m : Ms) (x tl : List UInt8) : Ms × Int :=
 if chkC true (decide ((tagOf (macKey c.seed m.who (sgen m.kind m.gen)) x).a = (get8 tl 0 : Nat)) && decide ((tagOf (macKey c.seed m.who (sgen m.kind m.gen)) x).b = (get8 tl 8 : Nat))) true (decide (m.epoch < 0) || decide (c.fresh ≤ IntKind.u64.wrap (m.epoch - 0))) (decide (m.metric < c.m)) = 0 then (m, 0)
 else (msZ, chkC true (decide ((tagOf (macKey c.seed m.who (sgen m.kind m.gen)) x).a = (get8 tl 0 : Nat)) && decide ((tagOf (macKey c.seed m.who (sgen m.kind m.gen)) x).b = (get8 tl 8 : Nat))) true (decide (m.epoch < 0) || decide (c.fresh ≤ IntKind.u64.wrap (m.epoch - 0))) (decide (m.metric < c.m)))
def ansK (c : Cf) (m : Ms) (x tl : List UInt8) : Ms × Int :=
 if c.n ≤ m.who then (msZ, 3) else if okK ⟨0, 0⟩ (sgen m.kind m.gen) 0 c.grace = false then (msZ, 4) else ansC c m x tl
def ansM (c : Cf) (ok : Bool) (m : Ms) (x tl : List UInt8) : Ms × Int := match ok with | false => (msZ, 2) | true => ansK c m x tl
def ansV (c : Cf) (l : List UInt8) : Ms × Int := ansM c (okL (l.take 32)) (decM (l.take 32)) (l.take 32) (l.drop 32)
theorem may_z {w sq : Int} (hw : 1 ≤ w ∧ w ≤ 64) (hs : 1 ≤ sq) : mayP w 0 0 sq = true := by
 unfold mayP
 rw [decide_eq_false (show ¬ sq ≤ 0 - w by omega), decide_eq_true (show (0 : Int) < sq by omega)]
 rfl
theorem ChkP (gb rb lb nb cn ob co : Nat) (sn so : List Value) (c : Cf) (N : Nat) (nws ols : List Nat) (T : Hp) (hN : c.n = N) (hc : OkC c) (hnl : nws.length = N) (hol : ols.length = N) (hrn : ∀ (k p : Nat), nws[k]? = some p → ∃ ip : Nat, T[ip]? = some (repO p c.window 0 0 0)) (hro : ∀ (k p : Nat), ols[k]? = some p → ∃ ip : Nat, T[ip]? = some (repO p c.window 0 0 0)) (l : List UInt8) (hl : l.length = 48) (A : Option Addr) (cc : Nat) (hA : RdS T A (bv l)) (hcc : 48 ≤ cc) :
  FnC Tryz.prog 10 #[.pointer (some ⟨gb, 0, none⟩), .slice A 48 cc, .int .i64 0, .nilFunc] (gateO gb c rb (some ⟨nb, 0, none⟩) N cn (some ⟨ob, 0, none⟩) N co 0 :: ringO rb c.seed lb N c.grace 0 :: (lb, row 127 ((List.replicate N (⟨0, 0⟩ : On)).flatMap On.cs)) :: (nb, row 62 (nws.map pp ++ sn)) :: (ob, row 62 (ols.map pp ++ so)) :: T) (fun v M' => ∃ as2 ref2 : Int, v = .tuple #[.agg #[.int .i64 (ansV c l).1.kind, .int .i64 (ansV c l).1.who, .int .i64 (ansV c l).1.gen, .int .i64 (ansV c l).1.seq, .int .i64 (ansV c l).1.epoch, .int .i64 (ansV c l).1.value, .int .i64 (ansV c l).1.metric], .int .i64 (ansV c l).2] ∧ M' = (gateO gb c rb (some ⟨nb, 0, none⟩) N cn (some ⟨ob, 0, none⟩) N co ref2 :: ringO rb c.seed lb N c.grace as2 :: (lb, row 127 ((List.replicate N (⟨0, 0⟩ : On)).flatMap On.cs)) :: (nb, row 62 (nws.map pp ++ sn)) :: (ob, row 62 (ols.map pp ++ so)) :: T)) := by
 have hans : ansV c l = ansM c (okL (l.take 32)) (decM (l.take 32)) (l.take 32) (l.drop 32) := rfl
 rw [hans]
 cases h1 : okL (l.take 32)
 · exact (Check_bad gb rb lb nb cn ob co sn so c N 0 0 _ nws ols T l A cc hA hcc hl h1 0 ⟨by decide, by decide⟩).mono (fun v M' h => ⟨0, _, h.1, h.2⟩)
 ·
  have hgr := hc.grace
  have hput := (okL_iff.1 h1).2
  have hm := (okL_iff.1 h1).1
  have hle : l = putM (decM (l.take 32)) ++ l.drop 32 := by rw [hput]; exact (List.take_append_drop 32 l).symm
  have htl : (l.drop 32).length = 16 := by simp; omega
  have hb := mayM_iff.1 hm
  generalize l.drop 32 = tl at *
  generalize hx32 : l.take 32 = x32 at *
  generalize decM x32 = m at *
  obtain ⟨kind, who, gen, sq, ep, va, me⟩ := m
  simp only at hb
  obtain ⟨k, hk⟩ : ∃ k : Nat, who = k := ⟨who.toNat, by omega⟩
  subst hk
  subst hput
  have e32 : ansM c true ⟨kind, (k : Nat), gen, sq, ep, va, me⟩ (putM ⟨kind, (k : Nat), gen, sq, ep, va, me⟩) tl = ansK c ⟨kind, (k : Nat), gen, sq, ep, va, me⟩ (putM ⟨kind, (k : Nat), gen, sq, ep, va, me⟩) tl := rfl
  rw [e32]
  by_cases hw : N ≤ k
  ·
   have ea : ansK c ⟨kind, (k : Nat), gen, sq, ep, va, me⟩ (putM ⟨kind, (k : Nat), gen, sq, ep, va, me⟩) tl = (msZ, 3) := by unfold ansK; rw [if_pos (by show c.n ≤ ((k : Nat) : Int); omega)]
   rw [ea]
   rw [hle] at hA
   exact (Check_who gb rb lb nb cn ob co sn so c N 0 0 _ nws ols T hN k hw kind gen sq ep va me 0 hm ⟨by decide, by decide⟩ tl A cc hA hcc htl).mono (fun v M' h => ⟨0, _, h.1, h.2⟩)
  ·
   have hx0 : (List.replicate N (⟨0, 0⟩ : On))[k]? = some (⟨0, 0⟩ : On) := by rw [List.getElem?_replicate, if_pos (by omega)]
   have hwn : ¬ c.n ≤ ((k : Nat) : Int) := by omega
   obtain ⟨p, hp⟩ : ∃ p, nws[k]? = some p := ⟨_, List.getElem?_eq_getElem (by omega)⟩
   obtain ⟨p2, hp2⟩ : ∃ p2, ols[k]? = some p2 := ⟨_, List.getElem?_eq_getElem (by omega)⟩
   by_cases h2 : kind = 2 ∧ gen - 1 ≠ 0
   ·
    have ea : ansK c ⟨kind, (k : Nat), gen, sq, ep, va, me⟩ (putM ⟨kind, (k : Nat), gen, sq, ep, va, me⟩) tl = (msZ, 4) := by
     unfold ansK
     rw [if_neg hwn, if_pos (by show okK ⟨0, 0⟩ (sgen kind gen) 0 c.grace = false; unfold sgen okK; grind)]
    rw [ea]
    obtain ⟨h2a, h2b⟩ := h2
    subst h2a
    rw [hle] at hA
    exact (Check_rot gb rb lb nb cn ob co sn so c N 0 0 _ nws ols T hN (by simp) hnl hol hgr ⟨by decide, by decide⟩ k ⟨0, 0⟩ hx0 ⟨by decide, by decide⟩ gen sq ep va me ⟨by omega, by omega⟩ h2b 0 hm ⟨by decide, by decide⟩ tl A cc hA hcc htl).mono (fun v M' h => ⟨0, _, h.1, h.2⟩)
   ·
    have hk2 : kind = 2 → gen - 1 = (⟨0, 0⟩ : On).gen := fun h => by
     by_cases h3 : gen - 1 = 0
     · exact h3
     · exact absurd ⟨h, h3⟩ h2
    obtain ⟨ip, hip⟩ : ∃ ip : Nat, T[ip]? = some (repO (if sgen kind gen = (⟨0, 0⟩ : On).gen then p else p2) c.window 0 0 0) := by
     split
     · exact hrn k p hp
     · exact hro k p2 hp2
    rw [hle] at hA
    have hC := Check_nil gb rb lb nb cn ob co sn so c N 0 0 _ nws ols T hN (by simp) hnl hol hgr ⟨by decide, by decide⟩ k ⟨0, 0⟩ hx0 ⟨by decide, by decide⟩ ⟨by decide, by decide⟩ kind gen sq ep va me ⟨by omega, by omega⟩ hk2 0 hc p p2 hp hp2 ip 0 0 0 ⟨by decide, by decide⟩ hip ⟨by decide, by decide⟩ hm ⟨by decide, by decide⟩ tl A cc hA hcc htl
    cases ho : okK ⟨0, 0⟩ (sgen kind gen) 0 c.grace
    ·
     have ea : ansK c ⟨kind, (k : Nat), gen, sq, ep, va, me⟩ (putM ⟨kind, (k : Nat), gen, sq, ep, va, me⟩) tl = (msZ, 4) := by
      unfold ansK
      rw [if_neg hwn, if_pos (by exact ho)]
     rw [ea]
     rw [ho] at hC
     refine hC.mono (fun v M' h => ?_)
     rcases h with h | h
     · exact absurd h.1 (by unfold chkC; simp)
     · exact ⟨_, _, h.2.1, h.2.2⟩
    ·
     have ea : ansK c ⟨kind, (k : Nat), gen, sq, ep, va, me⟩ (putM ⟨kind, (k : Nat), gen, sq, ep, va, me⟩) tl = ansC c ⟨kind, (k : Nat), gen, sq, ep, va, me⟩ (putM ⟨kind, (k : Nat), gen, sq, ep, va, me⟩) tl := by
      unfold ansK
      rw [if_neg hwn, if_neg (by show ¬ okK ⟨0, 0⟩ (sgen kind gen) 0 c.grace = false; rw [ho]; decide)]
     rw [ea]
     rw [ho, if_pos rfl] at hC
     simp only [same_dec _ tl (tagOf_bd _ _).1 (tagOf_bd _ _).2] at hC
     rw [may_z hc.window (by omega)] at hC
     unfold ansC
     refine hC.mono (fun v M' h => ?_)
     rcases h with h | h
     · rw [if_pos h.1]; exact ⟨_, _, h.2.1, h.2.2⟩
     · rw [if_neg h.1]; exact ⟨_, _, h.2.1, h.2.2⟩

theorem ChkR (gb rb lg ls nb cn ob co : Nat) (sn so : List Value) (c : Cf) (N : Nat) (nws ols : List Nat) (T : Hp) (hN : c.n = N) (hc : OkC c) (hnl : nws.length = N) (hol : ols.length = N) (hrn : ∀ (k p : Nat), nws[k]? = some p → ∃ ip : Nat, T[ip]? = some (rpO p c.window 0 none 0 0)) (hro : ∀ (k p : Nat), ols[k]? = some p → ∃ ip : Nat, T[ip]? = some (rpO p c.window 0 none 0 0)) (l : List UInt8) (hl : l.length = 48) :
  FnC Tryz.prog 11 #[.pointer (some ⟨gb, 0, none⟩), .string (ofL l), .int .i64 0, .slice none 0 0] (rgO gb c rb (some ⟨nb, 0, none⟩) N cn (some ⟨ob, 0, none⟩) N co :: rrO rb c.seed c.grace lg ls N :: (lg, row 3 (gens (List.replicate N (⟨0, 0⟩ : On)))) :: (ls, row 2 (sinces (List.replicate N (⟨0, 0⟩ : On)))) :: (nb, row 76 (nws.map pp ++ sn)) :: (ob, row 76 (ols.map pp ++ so)) :: T) (fun v M' => v = .tuple #[.agg #[.int .i64 (ansV c l).1.kind, .int .i64 (ansV c l).1.who, .int .i64 (ansV c l).1.gen, .int .i64 (ansV c l).1.seq, .int .i64 (ansV c l).1.epoch, .int .i64 (ansV c l).1.value, .int .i64 (ansV c l).1.metric], .int .i64 (ansV c l).2] ∧ (rgO gb c rb (some ⟨nb, 0, none⟩) N cn (some ⟨ob, 0, none⟩) N co :: rrO rb c.seed c.grace lg ls N :: (lg, row 3 (gens (List.replicate N (⟨0, 0⟩ : On)))) :: (ls, row 2 (sinces (List.replicate N (⟨0, 0⟩ : On)))) :: (nb, row 76 (nws.map pp ++ sn)) :: (ob, row 76 (ols.map pp ++ so)) :: T) = M') := by
 have hans : ansV c l = ansM c (okL (l.take 32)) (decM (l.take 32)) (l.take 32) (l.drop 32) := rfl
 rw [hans]
 cases h1 : okL (l.take 32)
 · exact rCheck_bad gb rb lg ls nb cn ob co sn so c N _ nws ols T l hl h1 0
 ·
  have hgr := hc.grace
  have hput := (okL_iff.1 h1).2
  have hm := (okL_iff.1 h1).1
  have hle : l = putM (decM (l.take 32)) ++ l.drop 32 := by rw [hput]; exact (List.take_append_drop 32 l).symm
  have htl : (l.drop 32).length = 16 := by simp; omega
  have hb := mayM_iff.1 hm
  generalize l.drop 32 = tl at *
  generalize hx32 : l.take 32 = x32 at *
  generalize decM x32 = m at *
  obtain ⟨kind, who, gen, sq, ep, va, me⟩ := m
  simp only at hb
  obtain ⟨k, hk⟩ : ∃ k : Nat, who = k := ⟨who.toNat, by omega⟩
  subst hk
  subst hput
  have e32 : ansM c true ⟨kind, (k : Nat), gen, sq, ep, va, me⟩ (putM ⟨kind, (k : Nat), gen, sq, ep, va, me⟩) tl = ansK c ⟨kind, (k : Nat), gen, sq, ep, va, me⟩ (putM ⟨kind, (k : Nat), gen, sq, ep, va, me⟩) tl := rfl
  rw [e32]
  by_cases hw : N ≤ k
  ·
   have ea : ansK c ⟨kind, (k : Nat), gen, sq, ep, va, me⟩ (putM ⟨kind, (k : Nat), gen, sq, ep, va, me⟩) tl = (msZ, 3) := by unfold ansK; rw [if_pos (by show c.n ≤ ((k : Nat) : Int); omega)]
   rw [ea]
   rw [hle]
   exact rCheck_who gb rb lg ls nb cn ob co sn so c N _ nws ols T hN k hw kind gen sq ep va me 0 tl htl hm
  ·
   have hx0 : (List.replicate N (⟨0, 0⟩ : On))[k]? = some (⟨0, 0⟩ : On) := by rw [List.getElem?_replicate, if_pos (by omega)]
   have hwn : ¬ c.n ≤ ((k : Nat) : Int) := by omega
   obtain ⟨p, hp⟩ : ∃ p, nws[k]? = some p := ⟨_, List.getElem?_eq_getElem (by omega)⟩
   obtain ⟨p2, hp2⟩ : ∃ p2, ols[k]? = some p2 := ⟨_, List.getElem?_eq_getElem (by omega)⟩
   by_cases h2 : kind = 2 ∧ gen - 1 ≠ 0
   ·
    have ea : ansK c ⟨kind, (k : Nat), gen, sq, ep, va, me⟩ (putM ⟨kind, (k : Nat), gen, sq, ep, va, me⟩) tl = (msZ, 4) := by
     unfold ansK
     rw [if_neg hwn, if_pos (by show okK ⟨0, 0⟩ (sgen kind gen) 0 c.grace = false; unfold sgen okK; grind)]
    rw [ea]
    rw [hle]
    exact rCheck_rot gb rb lg ls nb cn ob co sn so c N _ nws ols T hN (by simp) hnl hol hgr k ⟨0, 0⟩ hx0 ⟨by decide, by decide⟩ ⟨by decide, by decide⟩ kind gen sq ep va me ⟨by omega, by omega⟩ h2 0 tl htl hm
   ·
    have hk2 : kind = 2 → gen - 1 = (⟨0, 0⟩ : On).gen := fun h => by
     by_cases h3 : gen - 1 = 0
     · exact h3
     · exact absurd ⟨h, h3⟩ h2
    obtain ⟨ip, hip⟩ : ∃ ip : Nat, T[ip]? = some (rpO (if sgen kind gen = (⟨0, 0⟩ : On).gen then p else p2) c.window 0 none 0 0) := by
     split
     · exact hrn k p hp
     · exact hro k p2 hp2
    rw [hle]
    cases ho : okK ⟨0, 0⟩ (sgen kind gen) 0 c.grace
    ·
     have ea : ansK c ⟨kind, (k : Nat), gen, sq, ep, va, me⟩ (putM ⟨kind, (k : Nat), gen, sq, ep, va, me⟩) tl = (msZ, 4) := by
      unfold ansK
      rw [if_neg hwn, if_pos (by exact ho)]
     rw [ea]
     exact rCheck_no gb rb lg ls nb cn ob co sn so c N _ nws ols T hN (by simp) hnl hol hgr k ⟨0, 0⟩ hx0 ⟨by decide, by decide⟩ ⟨by decide, by decide⟩ kind gen sq ep va me ⟨by omega, by omega⟩ hk2 0 tl htl hm (by rw [ho]; decide)
    ·
     have ea : ansK c ⟨kind, (k : Nat), gen, sq, ep, va, me⟩ (putM ⟨kind, (k : Nat), gen, sq, ep, va, me⟩) tl = ansC c ⟨kind, (k : Nat), gen, sq, ep, va, me⟩ (putM ⟨kind, (k : Nat), gen, sq, ep, va, me⟩) tl := by
      unfold ansK
      rw [if_neg hwn, if_neg (by show ¬ okK ⟨0, 0⟩ (sgen kind gen) 0 c.grace = false; rw [ho]; decide)]
     rw [ea]
     have hC := rCheck_ok gb rb lg ls nb cn ob co sn so c N _ nws ols T hN (by simp) hnl hol hgr k ⟨0, 0⟩ hx0 ⟨by decide, by decide⟩ ⟨by decide, by decide⟩ kind gen sq ep va me ⟨by omega, by omega⟩ hk2 0 tl htl hm hc ho p p2 hp hp2 ip 0 ⟨by decide, by decide⟩ none 0 0 hip [] (RdS.nil _ _) rfl (by decide) ⟨by decide, by decide⟩
     rw [show (decide (0 - c.window < sq) && !decide (sq ∈ ([] : List Int))) = true from by have := hc.window; simp; omega] at hC
     unfold ansC
     refine hC.mono (fun v M' h => ?_)
     rcases h with h | h
     · rw [if_pos h.1]; exact ⟨h.2.1, h.2.2⟩
     · rw [if_neg h.1]; exact ⟨h.2.1, h.2.2⟩

end Go.Proofs.YtphoapajlcaoeaaGreat
/- walks -/
set_option linter.unusedVariables false
set_option linter.unusedSimpArgs false
set_option maxRecDepth 100000
set_option maxHeartbeats 4000000
namespace Go.Proofs.YtphoapajlcaoeaaGreat
open Go Go.X
def eqbM (a b : Ms) : Bool := decide (a.kind = b.kind) && (decide (a.who = b.who) && (decide (a.gen = b.gen) && (decide (a.seq = b.seq) && (decide (a.epoch = b.epoch) && (decide (a.value = b.value) && (decide (a.metric = b.metric) && true))))))
theorem eqbM_self (a : Ms) : eqbM a a = true := by simp [eqbM]
theorem msEq (a b : Ms) : EqV Tryz.prog 2 39 (.agg #[.int .i64 a.kind, .int .i64 a.who, .int .i64 a.gen, .int .i64 a.seq, .int .i64 a.epoch, .int .i64 a.value, .int .i64 a.metric]) (.agg #[.int .i64 b.kind, .int .i64 b.who, .int .i64 b.gen, .int .i64 b.seq, .int .i64 b.epoch, .int .i64 b.value, .int .i64 b.metric]) (eqbM a b) :=
 EqV.struct (by kernel_rfl) (EqI.cons fl39_0 (by kernel_rfl) ag3 rfl rfl (.int in3) (EqI.cons fl39_1 (by kernel_rfl) ag3 rfl rfl (.int in3) (EqI.cons fl39_2 (by kernel_rfl) ag3 rfl rfl (.int in3) (EqI.cons fl39_3 (by kernel_rfl) ag2 rfl rfl (.int in2) (EqI.cons fl39_4 (by kernel_rfl) ag2 rfl rfl (.int in2) (EqI.cons fl39_5 (by kernel_rfl) ag2 rfl rfl (.int in2) (EqI.cons fl39_6 (by kernel_rfl) ag3 rfl rfl (.int in3) (EqI.done (Nat.le_of_ble_eq_true (by kernel_rfl))))))))))
theorem Val.eqlMs {N : Nat} {z : World} {E : Env} {M : Hp} {dst : Option Tmp} {ty : TypeId} {pos : String} {af : Array Edge} {gu : Option (Nat × Bool)} {yt : TypeId} {x y : Operand} {a b : Ms} (hx : ev E x = some (.agg #[.int .i64 a.kind, .int .i64 a.who, .int .i64 a.gen, .int .i64 a.seq, .int .i64 a.epoch, .int .i64 a.value, .int .i64 a.metric])) (hy : ev E y = some (.agg #[.int .i64 b.kind, .int .i64 b.who, .int .i64 b.gen, .int .i64 b.seq, .int .i64 b.epoch, .int .i64 b.value, .int .i64 b.metric])) :
  Go.X.Val Tryz.prog N z E M ⟨dst, .binOp .eql 39 x y yt, ty, pos, af, gu⟩ (.bool (eqbM a b)) :=
 Go.X.Val.eqlG hx hy (by kernel_rfl) (msEq a b) (by decide)
theorem Val.neqMs {N : Nat} {z : World} {E : Env} {M : Hp} {dst : Option Tmp} {ty : TypeId} {pos : String} {af : Array Edge} {gu : Option (Nat × Bool)} {yt : TypeId} {x y : Operand} {a b : Ms} (hx : ev E x = some (.agg #[.int .i64 a.kind, .int .i64 a.who, .int .i64 a.gen, .int .i64 a.seq, .int .i64 a.epoch, .int .i64 a.value, .int .i64 a.metric])) (hy : ev E y = some (.agg #[.int .i64 b.kind, .int .i64 b.who, .int .i64 b.gen, .int .i64 b.seq, .int .i64 b.epoch, .int .i64 b.value, .int .i64 b.metric])) :
  Go.X.Val Tryz.prog N z E M ⟨dst, .binOp .neq 39 x y yt, ty, pos, af, gu⟩ (.bool (!(eqbM a b))) :=
 Go.X.Val.neqG hx hy (by kernel_rfl) (msEq a b) (by decide)
theorem may0 {w : Int} (h : 1 ≤ w ∧ w ≤ 64) : mayP w 0 0 1 = true := may_z h (by decide)
theorem stale0 {f : Int} (h : 1 ≤ f) : (decide ((0 : Int) < 0) || decide (f ≤ IntKind.u64.wrap (0 - 0))) = false := by
 rw [decide_eq_false (by omega), decide_eq_false (by rw [w_u64 (by omega) (by omega)]; omega)]; rfl
theorem mem_rp {f : Nat → Nat × Obj} {l : List Nat} {k p : Nat} {T : Hp} (h : l[k]? = some p) (hs : ∀ y, y ∈ l.map f → y ∈ T) : ∃ ip : Nat, T[ip]? = some (f p) := List.getElem?_of_mem (hs _ (List.mem_map_of_mem (List.mem_of_getElem? h)))
theorem ans_tl {cf : Cf} {va : Int} (hcf : OkC cf) (hm : mayM ⟨1, ((0 : Nat) : Int), 0, 1, 0, va, 0⟩ = true) (tl : List UInt8) : ansV cf (putM ⟨1, ((0 : Nat) : Int), 0, 1, 0, va, 0⟩ ++ tl) = ansC cf ⟨1, ((0 : Nat) : Int), 0, 1, 0, va, 0⟩ (putM ⟨1, ((0 : Nat) : Int), 0, 1, 0, va, 0⟩) tl := by
 have h1 : (putM ⟨1, ((0 : Nat) : Int), 0, 1, 0, va, 0⟩ ++ tl).take 32 = putM ⟨1, ((0 : Nat) : Int), 0, 1, 0, va, 0⟩ := List.take_left' (by simp)
 have h2 : (putM ⟨1, ((0 : Nat) : Int), 0, 1, 0, va, 0⟩ ++ tl).drop 32 = tl := List.drop_left' (by simp)
 have hn := hcf.n
 unfold ansV
 rw [h1, h2, okL_put hm, decM_put hm]
 unfold ansM ansK
 rw [if_neg (by show ¬ cf.n ≤ 0; omega), if_neg (by show ¬ okK ⟨0, 0⟩ (sgen 1 0) 0 cf.grace = false; rw [show okK ⟨0, 0⟩ (sgen 1 0) 0 cf.grace = true from rfl]; decide)]
theorem ans_same {cf : Cf} {va : Int} {kk : Nat} {x : UInt8} (hcf : OkC cf) (hm : mayM ⟨1, ((0 : Nat) : Int), 0, 1, 0, va, 0⟩ = true) (h : x.toNat = 0) : (ansV cf ((sealB (macKey cf.seed ((0 : Nat) : Int) 0) ⟨1, ((0 : Nat) : Int), 0, 1, 0, va, 0⟩).set kk (((sealB (macKey cf.seed ((0 : Nat) : Int) 0) ⟨1, ((0 : Nat) : Int), 0, 1, 0, va, 0⟩)).getD kk 0 ^^^ x))).2 = 0 := by
 have hx : x = 0 := UInt8.toNat_inj.1 h
 have hs : ((sealB (macKey cf.seed ((0 : Nat) : Int) 0) ⟨1, ((0 : Nat) : Int), 0, 1, 0, va, 0⟩).set kk (((sealB (macKey cf.seed ((0 : Nat) : Int) 0) ⟨1, ((0 : Nat) : Int), 0, 1, 0, va, 0⟩)).getD kk 0 ^^^ x)) = putM ⟨1, ((0 : Nat) : Int), 0, 1, 0, va, 0⟩ ++ tagB (tagOf (macKey cf.seed ((0 : Nat) : Int) 0) (putM ⟨1, ((0 : Nat) : Int), 0, 1, 0, va, 0⟩)) := by
  rw [hx, UInt8.xor_zero]
  by_cases hk : kk < ((sealB (macKey cf.seed ((0 : Nat) : Int) 0) ⟨1, ((0 : Nat) : Int), 0, 1, 0, va, 0⟩)).length
  · rw [List.getD_eq_getElem?_getD, List.getElem?_eq_getElem hk]; exact List.set_getElem_self hk
  · exact List.set_eq_of_length_le (by omega)
 have hb := tagOf_bd (macKey cf.seed ((0 : Nat) : Int) 0) (putM ⟨1, ((0 : Nat) : Int), 0, 1, 0, va, 0⟩)
 have ht := tagB_get hb.1 hb.2
 have hfr := hcf.fresh
 have hmm := hcf.m
 rw [hs, ans_tl hcf hm]
 unfold ansC
 rw [if_pos (chk0 rfl (by rw [ht.1, ht.2]; show (decide ((tagOf (macKey cf.seed ((0 : Nat) : Int) 0) (putM ⟨1, ((0 : Nat) : Int), 0, 1, 0, va, 0⟩)).a = _) && decide ((tagOf (macKey cf.seed ((0 : Nat) : Int) 0) (putM ⟨1, ((0 : Nat) : Int), 0, 1, 0, va, 0⟩)).b = _)) = true; simp) rfl (stale0 hfr.1) (decide_eq_true (by show (0 : Int) < cf.m; omega)))]
theorem ans_tag {cf : Cf} {va : Int} {kk : Nat} {x : UInt8} (hcf : OkC cf) (hm : mayM ⟨1, ((0 : Nat) : Int), 0, 1, 0, va, 0⟩ = true) (h1 : 32 ≤ kk) (h2 : kk < 48) (h : x.toNat ≠ 0) : (ansV cf ((sealB (macKey cf.seed ((0 : Nat) : Int) 0) ⟨1, ((0 : Nat) : Int), 0, 1, 0, va, 0⟩).set kk (((sealB (macKey cf.seed ((0 : Nat) : Int) 0) ⟨1, ((0 : Nat) : Int), 0, 1, 0, va, 0⟩)).getD kk 0 ^^^ x))).2 = 5 := by
 have hx : x ≠ 0 := fun e => h (by rw [e]; rfl)
 have hpl : (putM ⟨1, ((0 : Nat) : Int), 0, 1, 0, va, 0⟩).length = 32 := by simp
 have htl : (tagB (tagOf (macKey cf.seed ((0 : Nat) : Int) 0) (putM ⟨1, ((0 : Nat) : Int), 0, 1, 0, va, 0⟩))).length = 16 := by simp
 obtain ⟨y, hy⟩ : ∃ y, y = ((sealB (macKey cf.seed ((0 : Nat) : Int) 0) ⟨1, ((0 : Nat) : Int), 0, 1, 0, va, 0⟩)).getD kk 0 := ⟨_, rfl⟩
 have hy2 : (tagB (tagOf (macKey cf.seed ((0 : Nat) : Int) 0) (putM ⟨1, ((0 : Nat) : Int), 0, 1, 0, va, 0⟩))).getD (kk - 32) 0 = y := by
  rw [hy, putM_tag, List.getD_eq_getElem?_getD, List.getD_eq_getElem?_getD, List.getElem?_append_right (by omega), hpl]
 have hs : ((sealB (macKey cf.seed ((0 : Nat) : Int) 0) ⟨1, ((0 : Nat) : Int), 0, 1, 0, va, 0⟩).set kk (((sealB (macKey cf.seed ((0 : Nat) : Int) 0) ⟨1, ((0 : Nat) : Int), 0, 1, 0, va, 0⟩)).getD kk 0 ^^^ x)) = putM ⟨1, ((0 : Nat) : Int), 0, 1, 0, va, 0⟩ ++ (tagB (tagOf (macKey cf.seed ((0 : Nat) : Int) 0) (putM ⟨1, ((0 : Nat) : Int), 0, 1, 0, va, 0⟩))).set (kk - 32) (y ^^^ x) := by
  rw [← hy, putM_tag, List.set_append_right _ _ (by omega), hpl]
 have hb := tagOf_bd (macKey cf.seed ((0 : Nat) : Int) 0) (putM ⟨1, ((0 : Nat) : Int), 0, 1, 0, va, 0⟩)
 have ht := tagB_get hb.1 hb.2
 rw [hs, ans_tl hcf hm]
 have hd : (decide ((tagOf (macKey cf.seed ((0 : Nat) : Int) 0) (putM ⟨1, ((0 : Nat) : Int), 0, 1, 0, va, 0⟩)).a = (get8 ((tagB (tagOf (macKey cf.seed ((0 : Nat) : Int) 0) (putM ⟨1, ((0 : Nat) : Int), 0, 1, 0, va, 0⟩))).set (kk - 32) (y ^^^ x)) 0 : Nat)) && decide ((tagOf (macKey cf.seed ((0 : Nat) : Int) 0) (putM ⟨1, ((0 : Nat) : Int), 0, 1, 0, va, 0⟩)).b = (get8 ((tagB (tagOf (macKey cf.seed ((0 : Nat) : Int) 0) (putM ⟨1, ((0 : Nat) : Int), 0, 1, 0, va, 0⟩))).set (kk - 32) (y ^^^ x)) 8 : Nat))) = false := by
  rw [← ht.1, ← ht.2]
  apply Bool.eq_false_iff.2
  intro e
  simp only [Bool.and_eq_true, decide_eq_true_eq] at e
  have e1 := tag_inj htl (by simp) (Int.ofNat.inj e.1) (Int.ofNat.inj e.2)
  have e2 := congrArg (fun l => l.getD (kk - 32) 0) e1
  rw [hy2, List.getD_eq_getElem?_getD, List.getElem?_set_self (by omega)] at e2
  exact xor8_ne hx e2.symm
 unfold ansC
 have hc : chkC true (decide ((tagOf (macKey cf.seed ((0 : Nat) : Int) 0) (putM ⟨1, ((0 : Nat) : Int), 0, 1, 0, va, 0⟩)).a = (get8 ((tagB (tagOf (macKey cf.seed ((0 : Nat) : Int) 0) (putM ⟨1, ((0 : Nat) : Int), 0, 1, 0, va, 0⟩))).set (kk - 32) (y ^^^ x)) 0 : Nat)) && decide ((tagOf (macKey cf.seed ((0 : Nat) : Int) 0) (putM ⟨1, ((0 : Nat) : Int), 0, 1, 0, va, 0⟩)).b = (get8 ((tagB (tagOf (macKey cf.seed ((0 : Nat) : Int) 0) (putM ⟨1, ((0 : Nat) : Int), 0, 1, 0, va, 0⟩))).set (kk - 32) (y ^^^ x)) 8 : Nat))) true (decide ((0 : Int) < 0) || decide (cf.fresh ≤ IntKind.u64.wrap (0 - 0))) (decide ((0 : Int) < cf.m)) = 5 := chk5 rfl hd
 rw [if_neg (by intro e; have := hc.symm.trans e; exact absurd this (by decide))]
 exact hc
/-- quorumite/quorumitelaw8.VerifyTurned -/
theorem VerifyTurned_fn (zs : List Int) (A : Option Addr) (n cA : Nat) (v k : Int) (x : UInt8) (M : Hp) (hA : RdS M A (zs.map (Value.int .i64))) (hn : n = zs.length) : FnC Tryz.prog 3 #[.slice A n cA, .int .i64 v, .int .i64 k, .int .u8 (x.toNat : Nat)] M (fun v M' => v = .bool true ∧ M = M') := by
 refine FnC.intro Tryz.func3 rfl 111 rfl (by simp) (fun z => ?_)
 refine TC.en (E' := [(0, _), (1, _), (2, _), (3, _)]) ?_
 refine TC.sr ?_
 refine TL.v (Val.assign rfl) ?_
 refine TL.nt ?_
 refine TC.sr ?_
 refine TL.v (Val.move rfl) ?_
 refine TL.d (Does.callF go5 rfl (Fit_fn zs A n cA _ hA hn)) ?_
 rintro _ _ ⟨cf, rfl, hcf, rfl⟩
 have hn16 := hcf.n
 have hfr := hcf.fresh
 have hmm := hcf.m
 have hwin := hcf.window
 have hgrc := hcf.grace
 obtain ⟨N, hN⟩ : ∃ N : Nat, cf.n = N := ⟨cf.n.toNat, by omega⟩
 refine TL.d (Does.alloc ze26 rfl) ?_
 rintro _ _ ⟨b2, rfl, rfl⟩
 refine TL.d (Does.storeR (ys' := [.int .i64 (cf.n), .int .i64 (cf.f), .int .i64 (cf.m), .int .i64 (cf.quorum), .int .i64 (cf.fresh), .int .i64 (cf.grace), .int .i64 (cf.window), .int .i64 (cf.t0), .int .i64 (cf.t1), .int .i64 (cf.t2), .int .i64 (cf.t3), .int .i64 (cf.tol), .int .i64 (cf.min), .int .i64 (cf.max), .int .i64 (cf.calmup), .int .i64 (cf.calmdown), .int .i64 (cf.podsup), .int .i64 (cf.pctup), .int .i64 (cf.podsdown), .int .i64 (cf.pctdown), .int .i64 (cf.period), .int .i64 (cf.far), .int .i64 (cf.strikes), .int .i64 (cf.probe), .int .i64 (cf.sectors), .int .u64 (cf.seed)]) 0 rfl rfl rfl sz26 rfl rfl (by exact Nat.le_of_ble_eq_true rfl) rfl) ?_
 rintro _ _ ⟨rfl, rfl⟩
 refine TL.nt ?_
 refine TC.seq ?_
 refine TC.drawL [(b2, .cells #[.int .i64 (cf.n), .int .i64 (cf.f), .int .i64 (cf.m), .int .i64 (cf.quorum), .int .i64 (cf.fresh), .int .i64 (cf.grace), .int .i64 (cf.window), .int .i64 (cf.t0), .int .i64 (cf.t1), .int .i64 (cf.t2), .int .i64 (cf.t3), .int .i64 (cf.tol), .int .i64 (cf.min), .int .i64 (cf.max), .int .i64 (cf.calmup), .int .i64 (cf.calmdown), .int .i64 (cf.podsup), .int .i64 (cf.pctup), .int .i64 (cf.podsdown), .int .i64 (cf.pctdown), .int .i64 (cf.period), .int .i64 (cf.far), .int .i64 (cf.strikes), .int .i64 (cf.probe), .int .i64 (cf.sectors), .int .u64 (cf.seed)] 26 (0, 0))] mixed 10 ?_
 refine TA.tk 0 1 rfl rfl rfl (Val.loadAgg (vs := [.int .i64 (cf.n), .int .i64 (cf.f), .int .i64 (cf.m), .int .i64 (cf.quorum), .int .i64 (cf.fresh), .int .i64 (cf.grace), .int .i64 (cf.window), .int .i64 (cf.t0), .int .i64 (cf.t1), .int .i64 (cf.t2), .int .i64 (cf.t3), .int .i64 (cf.tol), .int .i64 (cf.min), .int .i64 (cf.max), .int .i64 (cf.calmup), .int .i64 (cf.calmdown), .int .i64 (cf.podsup), .int .i64 (cf.pctup), .int .i64 (cf.podsdown), .int .i64 (cf.pctdown), .int .i64 (cf.period), .int .i64 (cf.far), .int .i64 (cf.strikes), .int .i64 (cf.probe), .int .i64 (cf.sectors), .int .u64 (cf.seed)]) 0 rfl ag26 sz26 rfl rfl rfl) ?_ (hro := (by repeat (first | exact Go.X.ro_pre1 | refine Go.X.ro_tail ?_ | refine Go.X.ro_app ?_)))
 refine TA.tk 2 5 rfl rfl rfl (Val.loadAgg (vs := [.int .i64 (cf.n), .int .i64 (cf.f), .int .i64 (cf.m), .int .i64 (cf.quorum), .int .i64 (cf.fresh), .int .i64 (cf.grace), .int .i64 (cf.window), .int .i64 (cf.t0), .int .i64 (cf.t1), .int .i64 (cf.t2), .int .i64 (cf.t3), .int .i64 (cf.tol), .int .i64 (cf.min), .int .i64 (cf.max), .int .i64 (cf.calmup), .int .i64 (cf.calmdown), .int .i64 (cf.podsup), .int .i64 (cf.pctup), .int .i64 (cf.podsdown), .int .i64 (cf.pctdown), .int .i64 (cf.period), .int .i64 (cf.far), .int .i64 (cf.strikes), .int .i64 (cf.probe), .int .i64 (cf.sectors), .int .u64 (cf.seed)]) 0 rfl ag26 sz26 rfl rfl rfl) ?_ (hro := (by repeat (first | exact Go.X.ro_pre1 | refine Go.X.ro_tail ?_ | refine Go.X.ro_app ?_)))
 refine TA.tk 4 21 rfl rfl rfl (Val.fieldAddr rfl fl26_22 sz24 rfl) ?_ (hro := (by repeat (first | exact Go.X.ro_pre1 | refine Go.X.ro_tail ?_ | refine Go.X.ro_app ?_)))
 refine TA.tk 5 53 rfl rfl rfl (Val.load 0 rfl ag24 rfl rfl) ?_ (hro := (by repeat (first | exact Go.X.ro_pre1 | refine Go.X.ro_tail ?_ | refine Go.X.ro_app ?_)))
 refine TA.one 1 (by kernel_rfl) ?_
 refine TO.dz 55 (some 23) rfl rfl rfl rfl (Does.callF go6 rfl (gNew_fn cf N _ hcf hN)) ?_
 rintro _ _ ⟨gb, rb, lb, nb, cn, sn, ob, co, so, nws, ols, rfl, hnl, hol, rfl⟩
 refine ⟨(by repeat (first | exact Go.X.ro_pre1 | refine Go.X.ro_tail ?_ | refine Go.X.ro_app ?_)), ?_⟩
 refine TA.one 3 (by kernel_rfl) ?_
 refine TO.dz 63 (some 25) rfl rfl rfl rfl (Does.callF go7 rfl (rgNew_fn cf N _ hcf hN)) ?_
 rintro _ _ ⟨gb2, rb2, lg, ls, nb2, cn2, sn2, ob2, co2, so2, nws2, ols2, rfl, hnl2, hol2, rfl⟩
 refine ⟨(by repeat (first | exact Go.X.ro_pre1 | refine Go.X.ro_tail ?_ | refine Go.X.ro_app ?_)), ?_⟩
 refine TA.one 6 (by kernel_rfl) ?_
 refine TO.dz 127 (some 28) rfl rfl rfl rfl (Does.callF go8 rfl (sNew_fn cf.seed ((0 : Nat) : Int) _ ⟨by decide, by decide⟩)) ?_
 rintro _ _ ⟨sb, rfl, rfl⟩
 refine ⟨(by repeat (first | exact Go.X.ro_pre1 | refine Go.X.ro_tail ?_ | refine Go.X.ro_app ?_)), ?_⟩
 refine TA.tk 7 255 rfl rfl rfl (Val.assign rfl) ?_ (hro := (by repeat (first | exact Go.X.ro_pre1 | refine Go.X.ro_tail ?_ | refine Go.X.ro_app ?_)))
 refine TA.tk 8 511 rfl rfl rfl (Val.assign rfl) ?_ (hro := (by repeat (first | exact Go.X.ro_pre1 | refine Go.X.ro_tail ?_ | refine Go.X.ro_app ?_)))
 refine TA.tk 9 1023 rfl rfl rfl (Val.assign rfl) ?_ (hro := (by repeat (first | exact Go.X.ro_pre1 | refine Go.X.ro_tail ?_ | refine Go.X.ro_app ?_)))
 refine TA.done (by kernel_rfl) ?_
 refine AtX.then ?_
 refine TC.en (E' := [(1, _), (2, _), (3, _), (8, _), (10, _), (11, _), (12, _)]) ?_
 refine TC.seq ?_
 refine TC.sr ?_
 refine TL.v (Val.move rfl) ?_
 refine TL.v (Val.eqlNil rfl rfl pt28) ?_
 refine TL.v (Val.move rfl) ?_
 refine TL.vy (Val.move rfl) ?_
 refine TL.vy (Val.eqlNil rfl rfl pt30) ?_
 refine TL.v (Val.pickOr rfl rfl rfl) ?_
 refine TL.v (Val.move rfl) ?_
 refine TL.vy (Val.move rfl) ?_
 refine TL.vy (Val.eqlNil rfl rfl pt32) ?_
 refine TL.v (Val.pickOr rfl rfl rfl) ?_
 refine TL.nt ?_
 refine TC.en (E' := [(1, _), (2, _), (3, _), (8, _), (10, _), (11, _), (12, _), (38, _)]) ?_
 refine TC.cond rfl (fun c1 => ?_) (fun c1 => ?_)
 ·
  (exfalso; simp at c1)
 ·
  refine TC.skip ?_
  refine AtX.then ?_
  refine TC.seq ?_
  obtain ⟨va, hva, g5_, l5_⟩ := rem_ex (m := IntKind.u64.wrap v) (d := 1099511627776) (by rw [w_u64m]; omega) (by decide)
  have hm : mayM ⟨1, ((0 : Nat) : Int), 0, 1, 0, va, 0⟩ = true := mayM_iff.2 (by simp; omega)
  refine TC.region ?_
  refine TL.v (Val.move rfl) ?_
  refine TL.v (Val.move rfl) ?_
  refine TL.v (Val.convI rfl iu2 in24 rfl) ?_
  refine TL.v (Val.rem rfl rfl (by decide) (r := va) hva) ?_
  refine TL.v (Val.convI rfl iu24 in2 (r := va) (w_i64 (by omega) (by omega))) ?_
  refine TL.d (Does.callF go9 rfl (sSample_fn sb 0 cf.seed ((0 : Nat) : Int) 0 0 0 0 va _ rfl hm)) ?_
  rintro _ _ ⟨bE, cE, spE, rfl, hcE, rfl⟩
  refine TL.v (Val.move rfl) ?_
  refine TL.v (Val.extract rfl rfl) ?_
  refine TL.v (Val.extract rfl rfl) ?_
  refine TL.v (Val.assign rfl) ?_
  refine TL.v (Val.assign rfl) ?_
  refine TL.nt ?_
  refine TC.en (E' := [(2, _), (3, _), (8, _), (10, _), (11, _), (13, _), (14, _)]) ?_
  refine TC.seq ?_
  refine TC.sr ?_
  refine TL.v (Val.move rfl) ?_
  refine TL.v (Val.neqI rfl rfl) ?_
  refine TL.v (Val.move rfl) ?_
  refine TL.vy (Val.move rfl) ?_
  refine TL.vy (Val.lenSl rfl rfl sl34) ?_
  refine TL.vy (Val.neqI rfl rfl) ?_
  refine TL.v (Val.pickOr rfl rfl rfl) ?_
  refine TL.nt ?_
  refine TC.cond rfl (fun c2 => ?_) (fun c2 => ?_)
  ·
   (exfalso; simp at c2)
  ·
   refine TC.en (E' := [(2, _), (3, _), (8, _), (10, _), (11, _), (13, _)]) ?_
   refine TC.skip ?_
   refine AtX.then ?_
   refine TC.seq ?_
   obtain ⟨r1, hr1, g1_, l1_⟩ := rem_ex (m := IntKind.u64.wrap k) (d := 48) (by rw [w_u64m]; omega) (by decide)
   obtain ⟨kk, hkr⟩ : ∃ kk : Nat, r1 = kk := ⟨r1.toNat, by omega⟩
   subst hkr
   have hkk := hr1
   have hk48 : kk < 48 := by omega
   refine TC.region ?_
   refine TL.v (Val.move rfl) ?_
   refine TL.v (Val.convI rfl iu3 in37 rfl) ?_
   refine TL.v (Val.rem rfl rfl (by decide) (r := ((kk : Nat) : Int)) hkk) ?_
   refine TL.v (Val.assign rfl) ?_
   refine TL.nt ?_
   refine TC.sr ?_
   refine TL.v (Val.move rfl) ?_
   refine TL.v (Val.move rfl) ?_
   refine TL.v (Val.move rfl) ?_
   refine TL.v (Val.move rfl) ?_
   refine TL.v (Val.indexAddr (i := kk) (r := kk) rfl rfl sl34 sz5 rfl hk48 (by omega)) ?_
   refine TL.v (Val.loadB kk rfl ag5 (rd_allR (i := 0) rfl) (by omega) (by simp; omega)) ?_
   refine TL.v (Val.move rfl) ?_
   refine TL.v (Val.xor rfl rfl (xor8 _ x)) ?_
   refine TL.v (Val.indexAddr (i := kk) (r := kk) rfl rfl sl34 sz5 rfl hk48 (by omega)) ?_
   refine TL.d (Does.storeB (c := (sealB (macKey cf.seed ((0 : Nat) : Int) 0) ⟨1, ((0 : Nat) : Int), 0, 1, 0, va, 0⟩).getD kk 0 ^^^ x) rfl rfl (i := 0) rfl rfl (by simp; omega) sz5) ?_
   rintro _ _ ⟨rfl, rfl⟩
   refine TL.nt ?_
   refine TC.en (E' := [(3, _), (8, _), (10, _), (11, _), (13, _), (15, _)]) ?_
   refine TC.seq ?_
   obtain ⟨lx, hlxe⟩ : ∃ lx, lx = ((sealB (macKey cf.seed ((0 : Nat) : Int) 0) ⟨1, ((0 : Nat) : Int), 0, 1, 0, va, 0⟩).set kk (((sealB (macKey cf.seed ((0 : Nat) : Int) 0) ⟨1, ((0 : Nat) : Int), 0, 1, 0, va, 0⟩)).getD kk 0 ^^^ x)) := ⟨_, rfl⟩
   have hlx : lx.length = 48 := by rw [hlxe]; simp
   refine TC.heap (M' := ((bE, row 5 (bv ((sealB (macKey cf.seed ((0 : Nat) : Int) 0) ⟨1, ((0 : Nat) : Int), 0, 1, 0, va, 0⟩).set kk (((sealB (macKey cf.seed ((0 : Nat) : Int) 0) ⟨1, ((0 : Nat) : Int), 0, 1, 0, va, 0⟩)).getD kk 0 ^^^ x)) ++ spE)) :: sobj sb cf.seed ((0 : Nat) : Int) 0 (0 + 1) :: rgO gb2 cf rb2 (some ⟨nb2, 0, none⟩) N cn2 (some ⟨ob2, 0, none⟩) N co2 :: rrO rb2 cf.seed cf.grace lg ls N :: (lg, row 3 (gens (List.replicate N (⟨0, 0⟩ : On)))) :: (ls, row 2 (sinces (List.replicate N (⟨0, 0⟩ : On)))) :: (nb2, row 76 (nws2.map pp ++ sn2)) :: (ob2, row 76 (ols2.map pp ++ so2)) :: ((nws2.map fun p => rpO p cf.window 0 none 0 0) ++ ((ols2.map fun p => rpO p cf.window 0 none 0 0) ++ (gateO gb cf rb (some ⟨nb, 0, none⟩) N cn (some ⟨ob, 0, none⟩) N co 0 :: ringO rb cf.seed lb N cf.grace 0 :: (lb, row 127 ((List.replicate N (⟨0, 0⟩ : On)).flatMap On.cs)) :: (nb, row 62 (nws.map pp ++ sn)) :: (ob, row 62 (ols.map pp ++ so)) :: ((nws.map fun p => repO p cf.window 0 0 0) ++ ((ols.map fun p => repO p cf.window 0 0 0) ++ ((b2, .cells #[.int .i64 (cf.n), .int .i64 (cf.f), .int .i64 (cf.m), .int .i64 (cf.quorum), .int .i64 (cf.fresh), .int .i64 (cf.grace), .int .i64 (cf.window), .int .i64 (cf.t0), .int .i64 (cf.t1), .int .i64 (cf.t2), .int .i64 (cf.t3), .int .i64 (cf.tol), .int .i64 (cf.min), .int .i64 (cf.max), .int .i64 (cf.calmup), .int .i64 (cf.calmdown), .int .i64 (cf.podsup), .int .i64 (cf.pctup), .int .i64 (cf.podsdown), .int .i64 (cf.pctdown), .int .i64 (cf.period), .int .i64 (cf.far), .int .i64 (cf.strikes), .int .i64 (cf.probe), .int .i64 (cf.sectors), .int .u64 (cf.seed)] 26 (0, 0)) :: M)))))))) (fun w h => h) ?_
   refine TC.heap (M' := (gateO gb cf rb (some ⟨nb, 0, none⟩) N cn (some ⟨ob, 0, none⟩) N co 0 :: ringO rb cf.seed lb N cf.grace 0 :: (lb, row 127 ((List.replicate N (⟨0, 0⟩ : On)).flatMap On.cs)) :: (nb, row 62 (nws.map pp ++ sn)) :: (ob, row 62 (ols.map pp ++ so)) :: ((bE, row 5 (bv lx ++ spE)) :: sobj sb cf.seed ((0 : Nat) : Int) 0 (0 + 1) :: (b2, .cells #[.int .i64 (cf.n), .int .i64 (cf.f), .int .i64 (cf.m), .int .i64 (cf.quorum), .int .i64 (cf.fresh), .int .i64 (cf.grace), .int .i64 (cf.window), .int .i64 (cf.t0), .int .i64 (cf.t1), .int .i64 (cf.t2), .int .i64 (cf.t3), .int .i64 (cf.tol), .int .i64 (cf.min), .int .i64 (cf.max), .int .i64 (cf.calmup), .int .i64 (cf.calmdown), .int .i64 (cf.podsup), .int .i64 (cf.pctup), .int .i64 (cf.podsdown), .int .i64 (cf.pctdown), .int .i64 (cf.period), .int .i64 (cf.far), .int .i64 (cf.strikes), .int .i64 (cf.probe), .int .i64 (cf.sectors), .int .u64 (cf.seed)] 26 (0, 0)) :: rgO gb2 cf rb2 (some ⟨nb2, 0, none⟩) N cn2 (some ⟨ob2, 0, none⟩) N co2 :: rrO rb2 cf.seed cf.grace lg ls N :: (lg, row 3 (gens (List.replicate N (⟨0, 0⟩ : On)))) :: (ls, row 2 (sinces (List.replicate N (⟨0, 0⟩ : On)))) :: (nb2, row 76 (nws2.map pp ++ sn2)) :: (ob2, row 76 (ols2.map pp ++ so2)) :: ((nws2.map fun p => rpO p cf.window 0 none 0 0) ++ ((ols2.map fun p => rpO p cf.window 0 none 0 0) ++ (((nws.map fun p => repO p cf.window 0 0 0) ++ ((ols.map fun p => repO p cf.window 0 0 0) ++ (M))))))))) (fun w h => by rw [hlxe]; exact Own.ac h) ?_
   refine TC.region ?_
   refine TL.v (Val.move rfl) ?_
   refine TL.v (Val.move rfl) ?_
   refine TL.d (Does.callF go10 rfl (ChkP gb rb lb nb cn ob co sn so cf N nws ols ((bE, row 5 (bv lx ++ spE)) :: sobj sb cf.seed ((0 : Nat) : Int) 0 (0 + 1) :: (b2, .cells #[.int .i64 (cf.n), .int .i64 (cf.f), .int .i64 (cf.m), .int .i64 (cf.quorum), .int .i64 (cf.fresh), .int .i64 (cf.grace), .int .i64 (cf.window), .int .i64 (cf.t0), .int .i64 (cf.t1), .int .i64 (cf.t2), .int .i64 (cf.t3), .int .i64 (cf.tol), .int .i64 (cf.min), .int .i64 (cf.max), .int .i64 (cf.calmup), .int .i64 (cf.calmdown), .int .i64 (cf.podsup), .int .i64 (cf.pctup), .int .i64 (cf.podsdown), .int .i64 (cf.pctdown), .int .i64 (cf.period), .int .i64 (cf.far), .int .i64 (cf.strikes), .int .i64 (cf.probe), .int .i64 (cf.sectors), .int .u64 (cf.seed)] 26 (0, 0)) :: rgO gb2 cf rb2 (some ⟨nb2, 0, none⟩) N cn2 (some ⟨ob2, 0, none⟩) N co2 :: rrO rb2 cf.seed cf.grace lg ls N :: (lg, row 3 (gens (List.replicate N (⟨0, 0⟩ : On)))) :: (ls, row 2 (sinces (List.replicate N (⟨0, 0⟩ : On)))) :: (nb2, row 76 (nws2.map pp ++ sn2)) :: (ob2, row 76 (ols2.map pp ++ so2)) :: ((nws2.map fun p => rpO p cf.window 0 none 0 0) ++ ((ols2.map fun p => rpO p cf.window 0 none 0 0) ++ (((nws.map fun p => repO p cf.window 0 0 0) ++ ((ols.map fun p => repO p cf.window 0 0 0) ++ (M))))))) hN hcf hnl hol (fun k p h => mem_rp (f := fun p => repO p cf.window 0 0 0) (T := ((bE, row 5 (bv lx ++ spE)) :: sobj sb cf.seed ((0 : Nat) : Int) 0 (0 + 1) :: (b2, .cells #[.int .i64 (cf.n), .int .i64 (cf.f), .int .i64 (cf.m), .int .i64 (cf.quorum), .int .i64 (cf.fresh), .int .i64 (cf.grace), .int .i64 (cf.window), .int .i64 (cf.t0), .int .i64 (cf.t1), .int .i64 (cf.t2), .int .i64 (cf.t3), .int .i64 (cf.tol), .int .i64 (cf.min), .int .i64 (cf.max), .int .i64 (cf.calmup), .int .i64 (cf.calmdown), .int .i64 (cf.podsup), .int .i64 (cf.pctup), .int .i64 (cf.podsdown), .int .i64 (cf.pctdown), .int .i64 (cf.period), .int .i64 (cf.far), .int .i64 (cf.strikes), .int .i64 (cf.probe), .int .i64 (cf.sectors), .int .u64 (cf.seed)] 26 (0, 0)) :: rgO gb2 cf rb2 (some ⟨nb2, 0, none⟩) N cn2 (some ⟨ob2, 0, none⟩) N co2 :: rrO rb2 cf.seed cf.grace lg ls N :: (lg, row 3 (gens (List.replicate N (⟨0, 0⟩ : On)))) :: (ls, row 2 (sinces (List.replicate N (⟨0, 0⟩ : On)))) :: (nb2, row 76 (nws2.map pp ++ sn2)) :: (ob2, row 76 (ols2.map pp ++ so2)) :: ((nws2.map fun p => rpO p cf.window 0 none 0 0) ++ ((ols2.map fun p => rpO p cf.window 0 none 0 0) ++ (((nws.map fun p => repO p cf.window 0 0 0) ++ ((ols.map fun p => repO p cf.window 0 0 0) ++ (M)))))))) h (fun y hy => by repeat (first | exact List.mem_append_left _ hy | refine List.mem_append_right _ ?_ | refine List.mem_cons_of_mem _ ?_))) (fun k p h => mem_rp (f := fun p => repO p cf.window 0 0 0) (T := ((bE, row 5 (bv lx ++ spE)) :: sobj sb cf.seed ((0 : Nat) : Int) 0 (0 + 1) :: (b2, .cells #[.int .i64 (cf.n), .int .i64 (cf.f), .int .i64 (cf.m), .int .i64 (cf.quorum), .int .i64 (cf.fresh), .int .i64 (cf.grace), .int .i64 (cf.window), .int .i64 (cf.t0), .int .i64 (cf.t1), .int .i64 (cf.t2), .int .i64 (cf.t3), .int .i64 (cf.tol), .int .i64 (cf.min), .int .i64 (cf.max), .int .i64 (cf.calmup), .int .i64 (cf.calmdown), .int .i64 (cf.podsup), .int .i64 (cf.pctup), .int .i64 (cf.podsdown), .int .i64 (cf.pctdown), .int .i64 (cf.period), .int .i64 (cf.far), .int .i64 (cf.strikes), .int .i64 (cf.probe), .int .i64 (cf.sectors), .int .u64 (cf.seed)] 26 (0, 0)) :: rgO gb2 cf rb2 (some ⟨nb2, 0, none⟩) N cn2 (some ⟨ob2, 0, none⟩) N co2 :: rrO rb2 cf.seed cf.grace lg ls N :: (lg, row 3 (gens (List.replicate N (⟨0, 0⟩ : On)))) :: (ls, row 2 (sinces (List.replicate N (⟨0, 0⟩ : On)))) :: (nb2, row 76 (nws2.map pp ++ sn2)) :: (ob2, row 76 (ols2.map pp ++ so2)) :: ((nws2.map fun p => rpO p cf.window 0 none 0 0) ++ ((ols2.map fun p => rpO p cf.window 0 none 0 0) ++ (((nws.map fun p => repO p cf.window 0 0 0) ++ ((ols.map fun p => repO p cf.window 0 0 0) ++ (M)))))))) h (fun y hy => by repeat (first | exact List.mem_append_left _ hy | refine List.mem_append_right _ ?_ | refine List.mem_cons_of_mem _ ?_))) lx hlx (some ⟨bE, 0, none⟩) cE (rd_all (i := 0) (sp := spE) rfl) (by omega))) ?_
   rintro _ _ ⟨as2, ref2, rfl, rfl⟩
   refine TL.v (Val.move rfl) ?_
   refine TL.v (Val.extract rfl rfl) ?_
   refine TL.v (Val.extract rfl rfl) ?_
   refine TL.d (Does.alloc ze39 rfl) ?_
   rintro _ _ ⟨b7, rfl, rfl⟩
   refine TL.d (Does.store (i := 0) rfl rfl rfl sz39 rfl rfl (by first | exact Nat.le_of_ble_eq_true rfl | decide | omega) rfl rfl) ?_
   rintro _ _ ⟨rfl, rfl⟩
   refine TL.v (Val.assign rfl) ?_
   refine TL.nt ?_
   refine TC.seq ?_
   refine TC.heap (M' := ((b7, .cells #[.int .i64 (ansV cf lx).1.kind, .int .i64 (ansV cf lx).1.who, .int .i64 (ansV cf lx).1.gen, .int .i64 (ansV cf lx).1.seq, .int .i64 (ansV cf lx).1.epoch, .int .i64 (ansV cf lx).1.value, .int .i64 (ansV cf lx).1.metric] 39 (0, 0)) :: gateO gb cf rb (some ⟨nb, 0, none⟩) N cn (some ⟨ob, 0, none⟩) N co ref2 :: ringO rb cf.seed lb N cf.grace as2 :: (lb, row 127 ((List.replicate N (⟨0, 0⟩ : On)).flatMap On.cs)) :: (nb, row 62 (nws.map pp ++ sn)) :: (ob, row 62 (ols.map pp ++ so)) :: ((bE, row 5 (bv lx ++ spE)) :: sobj sb cf.seed ((0 : Nat) : Int) 0 (0 + 1) :: (b2, .cells #[.int .i64 (cf.n), .int .i64 (cf.f), .int .i64 (cf.m), .int .i64 (cf.quorum), .int .i64 (cf.fresh), .int .i64 (cf.grace), .int .i64 (cf.window), .int .i64 (cf.t0), .int .i64 (cf.t1), .int .i64 (cf.t2), .int .i64 (cf.t3), .int .i64 (cf.tol), .int .i64 (cf.min), .int .i64 (cf.max), .int .i64 (cf.calmup), .int .i64 (cf.calmdown), .int .i64 (cf.podsup), .int .i64 (cf.pctup), .int .i64 (cf.podsdown), .int .i64 (cf.pctdown), .int .i64 (cf.period), .int .i64 (cf.far), .int .i64 (cf.strikes), .int .i64 (cf.probe), .int .i64 (cf.sectors), .int .u64 (cf.seed)] 26 (0, 0)) :: rgO gb2 cf rb2 (some ⟨nb2, 0, none⟩) N cn2 (some ⟨ob2, 0, none⟩) N co2 :: rrO rb2 cf.seed cf.grace lg ls N :: (lg, row 3 (gens (List.replicate N (⟨0, 0⟩ : On)))) :: (ls, row 2 (sinces (List.replicate N (⟨0, 0⟩ : On)))) :: (nb2, row 76 (nws2.map pp ++ sn2)) :: (ob2, row 76 (ols2.map pp ++ so2)) :: ((nws2.map fun p => rpO p cf.window 0 none 0 0) ++ ((ols2.map fun p => rpO p cf.window 0 none 0 0) ++ (((nws.map fun p => repO p cf.window 0 0 0) ++ ((ols.map fun p => repO p cf.window 0 0 0) ++ (M))))))))) (fun w h => h) ?_
   refine TC.heap (M' := (rgO gb2 cf rb2 (some ⟨nb2, 0, none⟩) N cn2 (some ⟨ob2, 0, none⟩) N co2 :: rrO rb2 cf.seed cf.grace lg ls N :: (lg, row 3 (gens (List.replicate N (⟨0, 0⟩ : On)))) :: (ls, row 2 (sinces (List.replicate N (⟨0, 0⟩ : On)))) :: (nb2, row 76 (nws2.map pp ++ sn2)) :: (ob2, row 76 (ols2.map pp ++ so2)) :: ((b7, .cells #[.int .i64 (ansV cf lx).1.kind, .int .i64 (ansV cf lx).1.who, .int .i64 (ansV cf lx).1.gen, .int .i64 (ansV cf lx).1.seq, .int .i64 (ansV cf lx).1.epoch, .int .i64 (ansV cf lx).1.value, .int .i64 (ansV cf lx).1.metric] 39 (0, 0)) :: (bE, row 5 (bv lx ++ spE)) :: sobj sb cf.seed ((0 : Nat) : Int) 0 (0 + 1) :: (b2, .cells #[.int .i64 (cf.n), .int .i64 (cf.f), .int .i64 (cf.m), .int .i64 (cf.quorum), .int .i64 (cf.fresh), .int .i64 (cf.grace), .int .i64 (cf.window), .int .i64 (cf.t0), .int .i64 (cf.t1), .int .i64 (cf.t2), .int .i64 (cf.t3), .int .i64 (cf.tol), .int .i64 (cf.min), .int .i64 (cf.max), .int .i64 (cf.calmup), .int .i64 (cf.calmdown), .int .i64 (cf.podsup), .int .i64 (cf.pctup), .int .i64 (cf.podsdown), .int .i64 (cf.pctdown), .int .i64 (cf.period), .int .i64 (cf.far), .int .i64 (cf.strikes), .int .i64 (cf.probe), .int .i64 (cf.sectors), .int .u64 (cf.seed)] 26 (0, 0)) :: gateO gb cf rb (some ⟨nb, 0, none⟩) N cn (some ⟨ob, 0, none⟩) N co ref2 :: ringO rb cf.seed lb N cf.grace as2 :: (lb, row 127 ((List.replicate N (⟨0, 0⟩ : On)).flatMap On.cs)) :: (nb, row 62 (nws.map pp ++ sn)) :: (ob, row 62 (ols.map pp ++ so)) :: ((nws2.map fun p => rpO p cf.window 0 none 0 0) ++ ((ols2.map fun p => rpO p cf.window 0 none 0 0) ++ (((nws.map fun p => repO p cf.window 0 0 0) ++ ((ols.map fun p => repO p cf.window 0 0 0) ++ (M))))))))) (fun w h => Own.ac h) ?_
   refine TC.region ?_
   refine TL.v (Val.move rfl) ?_
   refine TL.v (Val.move rfl) ?_
   refine TL.v (Val.b2s (l := lx) rfl us34 ui5 un9 hlx.symm (rd_all (i := 7) (sp := spE) rfl)) ?_
   refine TL.d (Does.callF go11 rfl (ChkR gb2 rb2 lg ls nb2 cn2 ob2 co2 sn2 so2 cf N nws2 ols2 ((b7, .cells #[.int .i64 (ansV cf lx).1.kind, .int .i64 (ansV cf lx).1.who, .int .i64 (ansV cf lx).1.gen, .int .i64 (ansV cf lx).1.seq, .int .i64 (ansV cf lx).1.epoch, .int .i64 (ansV cf lx).1.value, .int .i64 (ansV cf lx).1.metric] 39 (0, 0)) :: (bE, row 5 (bv lx ++ spE)) :: sobj sb cf.seed ((0 : Nat) : Int) 0 (0 + 1) :: (b2, .cells #[.int .i64 (cf.n), .int .i64 (cf.f), .int .i64 (cf.m), .int .i64 (cf.quorum), .int .i64 (cf.fresh), .int .i64 (cf.grace), .int .i64 (cf.window), .int .i64 (cf.t0), .int .i64 (cf.t1), .int .i64 (cf.t2), .int .i64 (cf.t3), .int .i64 (cf.tol), .int .i64 (cf.min), .int .i64 (cf.max), .int .i64 (cf.calmup), .int .i64 (cf.calmdown), .int .i64 (cf.podsup), .int .i64 (cf.pctup), .int .i64 (cf.podsdown), .int .i64 (cf.pctdown), .int .i64 (cf.period), .int .i64 (cf.far), .int .i64 (cf.strikes), .int .i64 (cf.probe), .int .i64 (cf.sectors), .int .u64 (cf.seed)] 26 (0, 0)) :: gateO gb cf rb (some ⟨nb, 0, none⟩) N cn (some ⟨ob, 0, none⟩) N co ref2 :: ringO rb cf.seed lb N cf.grace as2 :: (lb, row 127 ((List.replicate N (⟨0, 0⟩ : On)).flatMap On.cs)) :: (nb, row 62 (nws.map pp ++ sn)) :: (ob, row 62 (ols.map pp ++ so)) :: ((nws2.map fun p => rpO p cf.window 0 none 0 0) ++ ((ols2.map fun p => rpO p cf.window 0 none 0 0) ++ (((nws.map fun p => repO p cf.window 0 0 0) ++ ((ols.map fun p => repO p cf.window 0 0 0) ++ (M))))))) hN hcf hnl2 hol2 (fun k p h => mem_rp (f := fun p => rpO p cf.window 0 none 0 0) (T := ((b7, .cells #[.int .i64 (ansV cf lx).1.kind, .int .i64 (ansV cf lx).1.who, .int .i64 (ansV cf lx).1.gen, .int .i64 (ansV cf lx).1.seq, .int .i64 (ansV cf lx).1.epoch, .int .i64 (ansV cf lx).1.value, .int .i64 (ansV cf lx).1.metric] 39 (0, 0)) :: (bE, row 5 (bv lx ++ spE)) :: sobj sb cf.seed ((0 : Nat) : Int) 0 (0 + 1) :: (b2, .cells #[.int .i64 (cf.n), .int .i64 (cf.f), .int .i64 (cf.m), .int .i64 (cf.quorum), .int .i64 (cf.fresh), .int .i64 (cf.grace), .int .i64 (cf.window), .int .i64 (cf.t0), .int .i64 (cf.t1), .int .i64 (cf.t2), .int .i64 (cf.t3), .int .i64 (cf.tol), .int .i64 (cf.min), .int .i64 (cf.max), .int .i64 (cf.calmup), .int .i64 (cf.calmdown), .int .i64 (cf.podsup), .int .i64 (cf.pctup), .int .i64 (cf.podsdown), .int .i64 (cf.pctdown), .int .i64 (cf.period), .int .i64 (cf.far), .int .i64 (cf.strikes), .int .i64 (cf.probe), .int .i64 (cf.sectors), .int .u64 (cf.seed)] 26 (0, 0)) :: gateO gb cf rb (some ⟨nb, 0, none⟩) N cn (some ⟨ob, 0, none⟩) N co ref2 :: ringO rb cf.seed lb N cf.grace as2 :: (lb, row 127 ((List.replicate N (⟨0, 0⟩ : On)).flatMap On.cs)) :: (nb, row 62 (nws.map pp ++ sn)) :: (ob, row 62 (ols.map pp ++ so)) :: ((nws2.map fun p => rpO p cf.window 0 none 0 0) ++ ((ols2.map fun p => rpO p cf.window 0 none 0 0) ++ (((nws.map fun p => repO p cf.window 0 0 0) ++ ((ols.map fun p => repO p cf.window 0 0 0) ++ (M)))))))) h (fun y hy => by repeat (first | exact List.mem_append_left _ hy | refine List.mem_append_right _ ?_ | refine List.mem_cons_of_mem _ ?_))) (fun k p h => mem_rp (f := fun p => rpO p cf.window 0 none 0 0) (T := ((b7, .cells #[.int .i64 (ansV cf lx).1.kind, .int .i64 (ansV cf lx).1.who, .int .i64 (ansV cf lx).1.gen, .int .i64 (ansV cf lx).1.seq, .int .i64 (ansV cf lx).1.epoch, .int .i64 (ansV cf lx).1.value, .int .i64 (ansV cf lx).1.metric] 39 (0, 0)) :: (bE, row 5 (bv lx ++ spE)) :: sobj sb cf.seed ((0 : Nat) : Int) 0 (0 + 1) :: (b2, .cells #[.int .i64 (cf.n), .int .i64 (cf.f), .int .i64 (cf.m), .int .i64 (cf.quorum), .int .i64 (cf.fresh), .int .i64 (cf.grace), .int .i64 (cf.window), .int .i64 (cf.t0), .int .i64 (cf.t1), .int .i64 (cf.t2), .int .i64 (cf.t3), .int .i64 (cf.tol), .int .i64 (cf.min), .int .i64 (cf.max), .int .i64 (cf.calmup), .int .i64 (cf.calmdown), .int .i64 (cf.podsup), .int .i64 (cf.pctup), .int .i64 (cf.podsdown), .int .i64 (cf.pctdown), .int .i64 (cf.period), .int .i64 (cf.far), .int .i64 (cf.strikes), .int .i64 (cf.probe), .int .i64 (cf.sectors), .int .u64 (cf.seed)] 26 (0, 0)) :: gateO gb cf rb (some ⟨nb, 0, none⟩) N cn (some ⟨ob, 0, none⟩) N co ref2 :: ringO rb cf.seed lb N cf.grace as2 :: (lb, row 127 ((List.replicate N (⟨0, 0⟩ : On)).flatMap On.cs)) :: (nb, row 62 (nws.map pp ++ sn)) :: (ob, row 62 (ols.map pp ++ so)) :: ((nws2.map fun p => rpO p cf.window 0 none 0 0) ++ ((ols2.map fun p => rpO p cf.window 0 none 0 0) ++ (((nws.map fun p => repO p cf.window 0 0 0) ++ ((ols.map fun p => repO p cf.window 0 0 0) ++ (M)))))))) h (fun y hy => by repeat (first | exact List.mem_append_left _ hy | refine List.mem_append_right _ ?_ | refine List.mem_cons_of_mem _ ?_))) lx hlx)) ?_
   rintro _ _ ⟨rfl, rfl⟩
   refine TL.v (Val.move rfl) ?_
   refine TL.v (Val.extract rfl rfl) ?_
   refine TL.v (Val.extract rfl rfl) ?_
   refine TL.d (Does.alloc ze39 rfl) ?_
   rintro _ _ ⟨b8_, rfl, rfl⟩
   refine TL.d (Does.store (i := 0) rfl rfl rfl sz39 rfl rfl (by first | exact Nat.le_of_ble_eq_true rfl | decide | omega) rfl rfl) ?_
   rintro _ _ ⟨rfl, rfl⟩
   refine TL.v (Val.assign rfl) ?_
   refine TL.nt ?_
   refine TC.en (E' := [(3, _), (8, _), (15, _), (16, _), (17, _), (18, _), (19, _)]) ?_
   refine TC.seq ?_
   obtain ⟨q, hq⟩ : ∃ q, q = ansV cf lx := ⟨_, rfl⟩
   have hF1 : x.toNat = 0 → q.2 = 0 := fun h => by rw [hq, hlxe]; exact ans_same hcf hm h
   have hF2 : 32 ≤ kk → x.toNat ≠ 0 → q.2 = 5 := fun h1 h2 => by rw [hq, hlxe]; exact ans_tag hcf hm h1 hk48 h2
   rw [← hq]
   refine TC.region ?_
   refine TL.d (Does.callF go12 rfl (told8_fn _)) ?_
   rintro _ _ ⟨rfl, rfl⟩
   refine TL.v (Val.move rfl) ?_
   refine TL.vy (Val.loadAgg 7 rfl ag39 sz39 rfl rfl rfl) ?_
   refine TL.vy (Val.loadAgg 0 rfl ag39 sz39 rfl rfl rfl) ?_
   refine TL.vy (Val.same (v' := .bool true) (Val.eqlMs (a := q.1) (b := q.1) rfl rfl) (congrArg Value.bool (eqbM_self _))) ?_
   refine TL.v (Val.same (v' := .bool true) (Val.pickAnd rfl rfl rfl) (rfl)) ?_
   refine TL.v (Val.move rfl) ?_
   refine TL.vy (Val.move rfl) ?_
   refine TL.vy (Val.move rfl) ?_
   refine TL.vy (Val.same (v' := .bool true) (Val.eqlI rfl rfl) (congrArg Value.bool (decide_eq_true rfl))) ?_
   refine TL.v (Val.same (v' := .bool true) (Val.pickAnd rfl rfl rfl) (rfl)) ?_
   refine TL.v (Val.move rfl) ?_
   refine TL.vy (Val.move rfl) ?_
   refine TL.vy (Val.neqI rfl rfl) ?_
   refine TL.vy (Val.move rfl) ?_
   refine TL.gen (fun gA hgA => ?_)
   refine TL.gv rfl rfl rfl (fun hg => by subst hg; exact (Val.move rfl)) ?_
   refine TL.gv rfl rfl rfl (fun hg => by subst hg; exact (Val.eqlI rfl rfl)) ?_
   refine TL.vy (Val.same (v' := .bool true) (Val.pickOr rfl rfl rfl) (congrArg Value.bool (by subst hgA; by_cases h : x.toNat = 0 <;> simp [h, hF1]))) ?_
   refine TL.v (Val.same (v' := .bool true) (Val.pickAnd rfl rfl rfl) (rfl)) ?_
   refine TL.v (Val.move rfl) ?_
   refine TL.vy (Val.move rfl) ?_
   refine TL.vy (Val.lss rfl rfl) ?_
   refine TL.vy (Val.move rfl) ?_
   refine TL.gen (fun gB hgB => ?_)
   refine TL.gv rfl rfl rfl (fun hg => by subst hg; exact (Val.move rfl)) ?_
   refine TL.gv rfl rfl rfl (fun hg => by subst hg; exact (Val.eqlI rfl rfl)) ?_
   refine TL.vy (Val.pickOr rfl rfl rfl) ?_
   refine TL.vy (Val.move rfl) ?_
   refine TL.gen (fun gC hgC => ?_)
   refine TL.gv rfl rfl rfl (fun hg => by subst hg; exact (Val.move rfl)) ?_
   refine TL.gv rfl rfl rfl (fun hg => by subst hg; exact (Val.eqlI rfl rfl)) ?_
   refine TL.vy (Val.same (v' := .bool true) (Val.pickOr rfl rfl rfl) (congrArg Value.bool (by subst hgC; subst hgB; by_cases h : x.toNat = 0 <;> by_cases h2 : kk < 32 <;> simp_all <;> omega))) ?_
   refine TL.v (Val.same (v' := .bool true) (Val.pickAnd rfl rfl rfl) (rfl)) ?_
   refine TL.v (Val.assign rfl) ?_
   refine TL.nt ?_
   refine TC.en (E' := [(8, _)]) ?_
   refine TC.r1 (M' := M) (fn := Tryz.f3) (fun _ _ h => h) rfl (RV.tmp rfl) ?_
   exact ⟨rfl, rfl⟩

end Go.Proofs.YtphoapajlcaoeaaGreat
