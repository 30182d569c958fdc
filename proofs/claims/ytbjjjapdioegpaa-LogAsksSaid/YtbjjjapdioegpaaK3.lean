/- walks -/
import Derived.Test.YtbjjjapdioegpaaK2
import Derived.Test.YtbjjjapdioegpaaE9d
set_option linter.unusedVariables false
set_option linter.unusedSimpArgs false
set_option maxRecDepth 100000
set_option maxHeartbeats 4000000
namespace Go.Proofs.Ytbjjjapdioegpaa
open Go Go.X

theorem PutCell_fn (p pl kd : Int) (d : List UInt8) (M : Hp) : FnC Try.prog 11 #[.agg #[.int .u32 p, .int .i64 pl, .int .i64 kd, .string (ofL d)]] M (fun v M' => v = .tuple #[.string (ofL (putP p pl kd d).1), .int .i64 (putP p pl kd d).2] ∧ M = M') := by
  cases h : mayC p pl kd d.length with
  | true => rw [putP_yes h]; exact PutCell_yes p pl kd d M h
  | false => rw [putP_no h]; exact PutCell_no p pl kd d M h
theorem Put_all0 (p pl kd : Int) (d : List UInt8) (A : Option Addr) (n c : Nat) (M : Hp) (hA : RdS M A (bv d)) (hn : n = d.length) :
    FnC Try.prog 10 #[.agg #[.int .u32 p, .int .i64 pl, .int .i64 kd, .slice A n c]] M (fun v M' => ∃ σ, v = .tuple #[.slice (slA σ) (putP p pl kd d).1.length (slC σ), .int .i64 (putP p pl kd d).2] ∧ slOk σ 1 (putP p pl kd d).1.length (bv (putP p pl kd d).1) ∧ M' = slH σ 5 (bv (putP p pl kd d).1) ++ M) := by
  subst hn
  cases h : mayC p pl kd d.length with
  | true =>
    rw [putP_yes h]
    refine (Put_fn p pl kd d A _ c M hA rfl h).mono fun v M' hR => ?_
    obtain ⟨b, k, sp, hv, hk, hM⟩ := hR
    refine ⟨some (b, k, sp), ?_, ?_, hM⟩
    · rw [hv, cell_len h]; rfl
    · exact ⟨by simp [cell_len h], by show (bv (cellB p pl kd d)).length + sp.length = k * 1; rw [bv_len, cell_len h]; omega⟩
  | false =>
    rw [putP_no h]
    refine (Put_no p pl kd A _ c M h).mono fun v M' ⟨hv, hM⟩ => ?_
    exact ⟨none, hv, slOk_nil 1, hM.symm⟩
theorem Put_all (p pl kd : Int) (d : List UInt8) (A : Option Addr) (n c : Nat) (M : Hp) (hA : RdS M A (bv d)) (hn : n = d.length) :
    FnC Try.prog 10 #[.agg #[.int .u32 p, .int .i64 pl, .int .i64 kd, .slice A n c]] M (fun v M' => ∃ σ, v = .tuple #[.slice (slA σ) (putP p pl kd d).1.length (slC σ), .int .i64 (putP p pl kd d).2] ∧ slOk σ 1 (putP p pl kd d).1.length (bv (putP p pl kd d).1) ∧ M' = M ++ slH σ 5 (bv (putP p pl kd d).1)) :=
  (Put_all0 p pl kd d A n c M hA hn).heapR fun v M' ⟨σ, h1, h2, h3⟩ => ⟨_, ⟨σ, h1, h2, rfl⟩, fun z w h => ro_rot w (h3 ▸ h)⟩
theorem Get_all (l : List UInt8) (A : Option Addr) (n c : Nat) (M : Hp) (hA : RdS M A (bv l)) (hn : n = l.length) (hcap : l.length ≤ c) :
    FnC Try.prog 12 #[.slice A n c] M (fun v M' => ∃ σ, v = .tuple #[.agg #[.int .u32 (getP l).p, .int .i64 (getP l).pl, .int .i64 (getP l).kd, .slice (slA σ) (getP l).d.length (slC σ)], .bool (getP l).ok, .int .i64 (getP l).e] ∧ slOk σ 1 (getP l).d.length (bv (getP l).d) ∧ M' = M ++ slH σ 5 (bv (getP l).d)) := by
  by_cases hl : l.length = 64
  · cases hw : wholeB l with
    | false =>
      rw [getP_2 hl hw]
      refine (Get_b l A n c M hA hn hl hw).mono fun v M' ⟨hv, hM⟩ => ?_
      exact ⟨none, hv, slOk_nil 1, by rw [← hM]; simp [slH]⟩
    | true =>
      cases hm : mayL l with
      | false =>
        rw [getP_3 hl hw (fun h => by rw [hm] at h; cases h.1)]
        refine (Get_c l A n c M hA hn hcap hl hw hm).mono fun v M' ⟨hv, hM⟩ => ?_
        exact ⟨none, hv, slOk_nil 1, by rw [← hM]; simp [slH]⟩
      | true =>
        refine (Get_d l A n c M hA hn hcap hl hw hm).mono fun v M' hR => ?_
        rcases hR with ⟨hne, hv, hM⟩ | ⟨he, σ, hv, hok, hM⟩
        · rw [getP_3 hl hw (fun h => hne h.2)]
          exact ⟨none, hv, slOk_nil 1, by rw [← hM]; simp [slH]⟩
        · rw [getP_4 hl hw ⟨hm, he⟩]
          exact ⟨σ, hv, hok, hM⟩
  · rw [getP_1 hl]
    refine (Get_a l A n c M hA hn hl).mono fun v M' ⟨hv, hM⟩ => ?_
    exact ⟨none, hv, slOk_nil 1, by rw [← hM]; simp [slH]⟩
/-- quorumite/quorumiteref17.GetCell -/
theorem GetCell_fn (l : List UInt8) (M : Hp) : FnC Try.prog 13 #[.string (ofL l)] M (fun v M' => v = .tuple #[.agg #[.int .u32 (getP l).p, .int .i64 (getP l).pl, .int .i64 (getP l).kd, .string (ofL (getP l).d)], .bool (getP l).ok, .int .i64 (getP l).e] ∧ M = M') := by
  have hplt := passOf_lt l
  have h4 : (l.getD 4 0).toNat < 256 := UInt8.toNat_lt _
  have h5 : (l.getD 5 0).toNat < 256 := UInt8.toNat_lt _
  have h6 : (l.getD 6 0).toNat < 256 := UInt8.toNat_lt _
  have h7 : (l.getD 7 0).toNat < 256 := UInt8.toNat_lt _
  refine FnC.intro Try.func13 rfl 71 rfl (by simp) (fun z => ?_)
  refine TC.env (E' := [(0, _)]) (Sub.cons rfl (Sub.nil _)) ?_
  refine TC.seq ?_
  refine TC.region ?_
  refine TL.does (some 2) rfl rfl rfl (Does.alloc ze28 rfl) ?_
  rintro _ _ ⟨b1, rfl, rfl⟩
  refine TL.val rfl rfl (Nat.le_of_ble_eq_true rfl) (Val.assign rfl) ?_
  refine TL.val rfl rfl (Nat.le_of_ble_eq_true rfl) (Val.assign rfl) ?_
  refine TL.nil ?_
  refine AtX.then ?_
  refine TC.seq ?_
  refine TC.seq ?_
  refine TC.region ?_
  refine TL.val rfl rfl (Nat.le_of_ble_eq_true rfl) (Val.move rfl) ?_
  first
    | refine TL.val rfl rfl (Nat.le_of_ble_eq_true rfl) (Val.lenL rfl rfl un9) ?_
    | refine TL.val rfl rfl (Nat.le_of_ble_eq_true rfl) (Val.lenStr rfl rfl un9) ?_
  refine TL.val rfl rfl (Nat.le_of_ble_eq_true rfl) (Val.neqI rfl rfl) ?_
  refine TL.nil ?_
  refine AtX.then ?_
  refine TC.env (E' := [(0, _), (2, _), (3, _), (4, _), (12, _)]) (Sub.cons rfl (Sub.cons rfl (Sub.cons rfl (Sub.cons rfl (Sub.cons rfl (Sub.nil _)))))) ?_
  first | refine TC.condP rfl (fun c1 => ?_) (fun c1 => ?_) | refine TC.condN rfl (fun c1 => ?_) (fun c1 => ?_) | refine TC.condB rfl (fun c1 => ?_) (fun c1 => ?_) | refine TC.cond rfl (fun c1 => ?_) (fun c1 => ?_)
  · skip
    refine TC.env (E' := [(0, _), (2, _), (3, _), (4, _)]) (Sub.cons rfl (Sub.cons rfl (Sub.cons rfl (Sub.cons rfl (Sub.nil _))))) ?_
    refine TC.seq ?_
    refine TC.region ?_
    refine TL.val rfl rfl (Nat.le_of_ble_eq_true rfl) (Val.buildS pl28 ze28 rfl rfl) ?_
    first
      | refine TL.does none rfl rfl rfl (Does.store (i := 0) rfl rfl rfl sz28 rfl rfl (by first | decide | omega) rfl rfl) ?_
      | refine TL.does none rfl rfl rfl (Does.store (i := 1) rfl rfl rfl sz28 rfl rfl (by first | decide | omega) rfl rfl) ?_
      | refine TL.does none rfl rfl rfl (Does.store (i := 2) rfl rfl rfl sz28 rfl rfl (by first | decide | omega) rfl rfl) ?_
      | refine TL.does none rfl rfl rfl (Does.store (i := 3) rfl rfl rfl sz28 rfl rfl (by first | decide | omega) rfl rfl) ?_
      | refine TL.does none rfl rfl rfl (Does.store (i := 4) rfl rfl rfl sz28 rfl rfl (by first | decide | omega) rfl rfl) ?_
      | refine TL.does none rfl rfl rfl (Does.store (i := 5) rfl rfl rfl sz28 rfl rfl (by first | decide | omega) rfl rfl) ?_
    rintro _ _ ⟨rfl, rfl⟩
    refine TL.val rfl rfl (Nat.le_of_ble_eq_true rfl) (Val.assign rfl) ?_
    refine TL.val rfl rfl (Nat.le_of_ble_eq_true rfl) (Val.assign rfl) ?_
    refine TL.nil ?_
    refine AtX.then ?_
    refine TC.env (E' := [(0, _), (2, _), (3, _), (4, _)]) (Sub.cons rfl (Sub.cons rfl (Sub.cons rfl (Sub.cons rfl (Sub.nil _))))) ?_
    first
      | refine TC.ret3 (fn := Try.f13) (fun _ _ h => h) rfl (RV.agg (i := 0) rfl ag28 sz28 rfl rfl rfl) (RV.tmp rfl) (RV.tmp rfl) (M' := M) (by repeat (first | exact ro_refl | exact ro_pre | refine ro_tail ?_ | refine ro_app ?_)) ?_
      | refine TC.ret3 (fn := Try.f13) (fun _ _ h => h) rfl (RV.agg (i := 1) rfl ag28 sz28 rfl rfl rfl) (RV.tmp rfl) (RV.tmp rfl) (M' := M) (by repeat (first | exact ro_refl | exact ro_pre | refine ro_tail ?_ | refine ro_app ?_)) ?_
      | refine TC.ret3 (fn := Try.f13) (fun _ _ h => h) rfl (RV.agg (i := 2) rfl ag28 sz28 rfl rfl rfl) (RV.tmp rfl) (RV.tmp rfl) (M' := M) (by repeat (first | exact ro_refl | exact ro_pre | refine ro_tail ?_ | refine ro_app ?_)) ?_
      | refine TC.ret3 (fn := Try.f13) (fun _ _ h => h) rfl (RV.agg (i := 3) rfl ag28 sz28 rfl rfl rfl) (RV.tmp rfl) (RV.tmp rfl) (M' := M) (by repeat (first | exact ro_refl | exact ro_pre | refine ro_tail ?_ | refine ro_app ?_)) ?_
      | refine TC.ret3 (fn := Try.f13) (fun _ _ h => h) rfl (RV.agg (i := 4) rfl ag28 sz28 rfl rfl rfl) (RV.tmp rfl) (RV.tmp rfl) (M' := M) (by repeat (first | exact ro_refl | exact ro_pre | refine ro_tail ?_ | refine ro_app ?_)) ?_
      | refine TC.ret3 (fn := Try.f13) (fun _ _ h => h) rfl (RV.agg (i := 5) rfl ag28 sz28 rfl rfl rfl) (RV.tmp rfl) (RV.tmp rfl) (M' := M) (by repeat (first | exact ro_refl | exact ro_pre | refine ro_tail ?_ | refine ro_app ?_)) ?_
    first
      | (rw [getP_1 (by first | omega | (simp at c1; omega))]; exact ⟨rfl, rfl⟩)
      | (rw [getP_2 hl (by first | assumption | simpa using c2 | simpa using c3 | simpa using c4)]; exact ⟨rfl, rfl⟩)
      | (rw [getP_4 hl hw (hq.1 (by grind))]; exact ⟨rfl, rfl⟩)
      | (rw [getP_3 hl hw (fun h => by have := hq.2 h; grind)]; exact ⟨rfl, rfl⟩)
  · skip
    refine TC.env (E' := [(0, _), (2, _), (3, _), (4, _)]) (Sub.cons rfl (Sub.cons rfl (Sub.cons rfl (Sub.cons rfl (Sub.nil _))))) ?_
    refine TC.skip ?_
    refine AtX.then ?_
    refine TC.env (E' := [(0, _), (2, _), (3, _), (4, _)]) (Sub.cons rfl (Sub.cons rfl (Sub.cons rfl (Sub.cons rfl (Sub.nil _))))) ?_
    refine TC.seq ?_
    have hl : l.length = 64 := by first | omega | (simp at c1; omega)
    refine TC.region ?_
    refine TL.val rfl rfl (Nat.le_of_ble_eq_true rfl) (Val.move rfl) ?_
    refine TL.val rfl rfl (Nat.le_of_ble_eq_true rfl) (Val.sliceL (i := 0) (j := 4) rfl un9 rfl rfl rfl rfl (by omega) (by omega)) ?_
    refine TL.val rfl rfl (Nat.le_of_ble_eq_true rfl) (Val.addL (b := [0, 0, 0, 0]) rfl rfl (by simp; omega)) ?_
    refine TL.does (some 18) rfl rfl rfl (Does.callF go27 rfl (refGet_fn ((l.take 4).drop 0 ++ [0, 0, 0, 0]) 0 _ (by simp; omega) (by simp; omega))) ?_
    rintro _ _ ⟨rfl, rfl⟩
    rw [get8_head (by omega)]
    refine TL.val rfl rfl (Nat.le_of_ble_eq_true rfl) (Val.move rfl) ?_
    refine TL.val rfl rfl (Nat.le_of_ble_eq_true rfl) (Val.extract rfl rfl) ?_
    refine TL.val rfl rfl (Nat.le_of_ble_eq_true rfl) (Val.extract rfl rfl) ?_
    refine TL.val rfl rfl (Nat.le_of_ble_eq_true rfl) (Val.assign rfl) ?_
    refine TL.val rfl rfl (Nat.le_of_ble_eq_true rfl) (Val.assign rfl) ?_
    refine TL.nil ?_
    refine AtX.then ?_
    refine TC.env (E' := [(0, _), (2, _), (3, _), (4, _), (5, _)]) (Sub.cons rfl (Sub.cons rfl (Sub.cons rfl (Sub.cons rfl (Sub.cons rfl (Sub.nil _)))))) ?_
    refine TC.seq ?_
    refine TC.seq ?_
    refine TC.drawL M mixed 14 ?_
    refine TA.tk 0 1 rfl rfl rfl (Val.move rfl) ?_
    refine TA.tk 1 3 rfl rfl rfl (Val.eqlI rfl rfl) ?_
    refine TA.tk 2 7 rfl rfl rfl (Val.move rfl) ?_
    refine TA.gen (fun g3 hg3 => ?_)
    refine TA.gtk 3 15 rfl rfl rfl rfl rfl (fun hg => by subst hg; exact (Val.move rfl)) ?_
    refine TA.gtk 4 31 rfl rfl rfl rfl rfl (fun hg => by subst hg; exact (Val.gtr rfl rfl)) ?_
    first
      | refine TA.tk 5 63 rfl rfl rfl (Val.pickAnd rfl rfl rfl) ?_
      | refine TA.tk 5 63 rfl rfl rfl (Val.pickOr rfl rfl rfl) ?_
      | refine TA.tk 5 63 rfl rfl rfl (Val.pick rfl rfl rfl) ?_
    refine TA.tk 6 127 rfl rfl rfl (Val.move rfl) ?_
    refine TA.gen (fun g4 hg4 => ?_)
    refine TA.gtk 7 255 rfl rfl rfl rfl rfl (fun hg => by subst hg; exact (Val.move rfl)) ?_
    first
      | refine TA.gtk 8 511 rfl rfl rfl rfl rfl (fun hg => by subst hg; exact (Val.indexL (i := 63) rfl rfl un9 rfl (by first | decide | omega))) ?_
      | refine TA.gtk 8 511 rfl rfl rfl rfl rfl (fun hg => by subst hg; exact (Val.indexS rfl rfl un9 rfl rfl)) ?_
    refine TA.gtk 9 1023 rfl rfl rfl rfl rfl (fun hg => by subst hg; exact (Val.move rfl)) ?_
    first
      | refine TA.gtk 10 2047 rfl rfl rfl rfl rfl (fun hg => by subst hg; exact (Val.convI rfl iu55 in22 (w_u32 (by omega) (by omega)))) ?_
      | refine TA.gtk 10 2047 rfl rfl rfl rfl rfl (fun hg => by subst hg; exact (Val.convI rfl iu55 in22 rfl)) ?_
    cases g4 with
    | false =>
      refine TA.one 11 (by kernel_rfl) ?_
      refine TO.dzY 4095 (some 32) rfl rfl rfl rfl rfl rfl (Does.callF go18 rfl (refMark_fn _ _)) ?_
      rintro _ _ ⟨rfl, rfl⟩
      refine roK ?_
      refine TA.tkY 12 8191 rfl rfl rfl rfl rfl (Val.neqI rfl rfl) ?_
      first
        | refine TA.tk 13 16383 rfl rfl rfl (Val.same (v' := .bool (!wholeB l)) (Val.pickAnd rfl rfl rfl) (by rw [← whole_ref]; clear hplt h4 h5 h6 h7; generalize decide (((passOf l : Nat) : Int) = 0) = A at *; generalize decide (((passOf l : Nat) : Int) > 250) = B at *; generalize decide (((l.getD 63 0).toNat : Int) ≠ ((markB (passOf l : Nat)).toNat : Int)) = C at *; subst_vars; cases A <;> cases B <;> cases C <;> first | rfl | contradiction)) ?_
        | refine TA.tk 13 16383 rfl rfl rfl (Val.same (v' := .bool (!wholeB l)) (Val.pickOr rfl rfl rfl) (by rw [← whole_ref]; clear hplt h4 h5 h6 h7; generalize decide (((passOf l : Nat) : Int) = 0) = A at *; generalize decide (((passOf l : Nat) : Int) > 250) = B at *; generalize decide (((l.getD 63 0).toNat : Int) ≠ ((markB (passOf l : Nat)).toNat : Int)) = C at *; subst_vars; cases A <;> cases B <;> cases C <;> first | rfl | contradiction)) ?_
        | refine TA.tk 13 16383 rfl rfl rfl (Val.same (v' := .bool (!wholeB l)) (Val.pick rfl rfl rfl) (by rw [← whole_ref]; clear hplt h4 h5 h6 h7; generalize decide (((passOf l : Nat) : Int) = 0) = A at *; generalize decide (((passOf l : Nat) : Int) > 250) = B at *; generalize decide (((l.getD 63 0).toNat : Int) ≠ ((markB (passOf l : Nat)).toNat : Int)) = C at *; subst_vars; cases A <;> cases B <;> cases C <;> first | rfl | contradiction)) ?_
      refine TA.done (by kernel_rfl) ?_
      refine AtX.then ?_
      refine TC.env (E' := [(0, _), (2, _), (3, _), (4, _), (5, _), (34, _)]) (Sub.cons rfl (Sub.cons rfl (Sub.cons rfl (Sub.cons rfl (Sub.cons rfl (Sub.cons rfl (Sub.nil _))))))) ?_
      first | refine TC.condP rfl (fun c2 => ?_) (fun c2 => ?_) | refine TC.condN rfl (fun c2 => ?_) (fun c2 => ?_) | refine TC.condB rfl (fun c2 => ?_) (fun c2 => ?_) | refine TC.cond rfl (fun c2 => ?_) (fun c2 => ?_)
      · skip
        refine TC.env (E' := [(0, _), (2, _), (3, _), (4, _), (5, _)]) (Sub.cons rfl (Sub.cons rfl (Sub.cons rfl (Sub.cons rfl (Sub.cons rfl (Sub.nil _)))))) ?_
        refine TC.seq ?_
        refine TC.region ?_
        refine TL.val rfl rfl (Nat.le_of_ble_eq_true rfl) (Val.buildS pl28 ze28 rfl rfl) ?_
        first
          | refine TL.does none rfl rfl rfl (Does.store (i := 0) rfl rfl rfl sz28 rfl rfl (by first | decide | omega) rfl rfl) ?_
          | refine TL.does none rfl rfl rfl (Does.store (i := 1) rfl rfl rfl sz28 rfl rfl (by first | decide | omega) rfl rfl) ?_
          | refine TL.does none rfl rfl rfl (Does.store (i := 2) rfl rfl rfl sz28 rfl rfl (by first | decide | omega) rfl rfl) ?_
          | refine TL.does none rfl rfl rfl (Does.store (i := 3) rfl rfl rfl sz28 rfl rfl (by first | decide | omega) rfl rfl) ?_
          | refine TL.does none rfl rfl rfl (Does.store (i := 4) rfl rfl rfl sz28 rfl rfl (by first | decide | omega) rfl rfl) ?_
          | refine TL.does none rfl rfl rfl (Does.store (i := 5) rfl rfl rfl sz28 rfl rfl (by first | decide | omega) rfl rfl) ?_
        rintro _ _ ⟨rfl, rfl⟩
        refine TL.val rfl rfl (Nat.le_of_ble_eq_true rfl) (Val.assign rfl) ?_
        refine TL.val rfl rfl (Nat.le_of_ble_eq_true rfl) (Val.assign rfl) ?_
        refine TL.nil ?_
        refine AtX.then ?_
        refine TC.env (E' := [(0, _), (2, _), (3, _), (4, _), (5, _)]) (Sub.cons rfl (Sub.cons rfl (Sub.cons rfl (Sub.cons rfl (Sub.cons rfl (Sub.nil _)))))) ?_
        first
          | refine TC.ret3 (fn := Try.f13) (fun _ _ h => h) rfl (RV.agg (i := 0) rfl ag28 sz28 rfl rfl rfl) (RV.tmp rfl) (RV.tmp rfl) (M' := M) (by repeat (first | exact ro_refl | exact ro_pre | refine ro_tail ?_ | refine ro_app ?_)) ?_
          | refine TC.ret3 (fn := Try.f13) (fun _ _ h => h) rfl (RV.agg (i := 1) rfl ag28 sz28 rfl rfl rfl) (RV.tmp rfl) (RV.tmp rfl) (M' := M) (by repeat (first | exact ro_refl | exact ro_pre | refine ro_tail ?_ | refine ro_app ?_)) ?_
          | refine TC.ret3 (fn := Try.f13) (fun _ _ h => h) rfl (RV.agg (i := 2) rfl ag28 sz28 rfl rfl rfl) (RV.tmp rfl) (RV.tmp rfl) (M' := M) (by repeat (first | exact ro_refl | exact ro_pre | refine ro_tail ?_ | refine ro_app ?_)) ?_
          | refine TC.ret3 (fn := Try.f13) (fun _ _ h => h) rfl (RV.agg (i := 3) rfl ag28 sz28 rfl rfl rfl) (RV.tmp rfl) (RV.tmp rfl) (M' := M) (by repeat (first | exact ro_refl | exact ro_pre | refine ro_tail ?_ | refine ro_app ?_)) ?_
          | refine TC.ret3 (fn := Try.f13) (fun _ _ h => h) rfl (RV.agg (i := 4) rfl ag28 sz28 rfl rfl rfl) (RV.tmp rfl) (RV.tmp rfl) (M' := M) (by repeat (first | exact ro_refl | exact ro_pre | refine ro_tail ?_ | refine ro_app ?_)) ?_
          | refine TC.ret3 (fn := Try.f13) (fun _ _ h => h) rfl (RV.agg (i := 5) rfl ag28 sz28 rfl rfl rfl) (RV.tmp rfl) (RV.tmp rfl) (M' := M) (by repeat (first | exact ro_refl | exact ro_pre | refine ro_tail ?_ | refine ro_app ?_)) ?_
        first
          | (rw [getP_1 (by first | omega | (simp at c1; omega))]; exact ⟨rfl, rfl⟩)
          | (rw [getP_2 hl (by first | assumption | simpa using c2 | simpa using c3 | simpa using c4)]; exact ⟨rfl, rfl⟩)
          | (rw [getP_4 hl hw (hq.1 (by grind))]; exact ⟨rfl, rfl⟩)
          | (rw [getP_3 hl hw (fun h => by have := hq.2 h; grind)]; exact ⟨rfl, rfl⟩)
      · skip
        refine TC.env (E' := [(0, _), (2, _), (3, _), (4, _), (5, _)]) (Sub.cons rfl (Sub.cons rfl (Sub.cons rfl (Sub.cons rfl (Sub.cons rfl (Sub.nil _)))))) ?_
        refine TC.skip ?_
        refine AtX.then ?_
        refine TC.env (E' := [(0, _), (2, _), (3, _), (4, _), (5, _)]) (Sub.cons rfl (Sub.cons rfl (Sub.cons rfl (Sub.cons rfl (Sub.cons rfl (Sub.nil _)))))) ?_
        refine TC.seq ?_
        have hw : wholeB l = true := by first | assumption | simpa using c2 | simpa using c3 | simpa using c4
        have hpo := whole_le hw
        have hn48 : nOf l ≤ 48 := by simp only [nOf]; omega
        refine TC.drawL M mixed 23 ?_
        refine TA.tk 0 1 rfl rfl rfl (Val.move rfl) ?_
        first
          | refine TA.tk 1 3 rfl rfl rfl (Val.convI rfl iu55 in22 (w_u32 (by omega) (by omega))) ?_
          | refine TA.tk 1 3 rfl rfl rfl (Val.convI rfl iu55 in22 rfl) ?_
        refine TA.tk 2 7 rfl rfl rfl (Val.move rfl) ?_
        first
          | refine TA.tk 3 15 rfl rfl rfl (Val.indexL (i := 4) rfl rfl un9 rfl (by first | decide | omega)) ?_
          | refine TA.tk 3 15 rfl rfl rfl (Val.indexS rfl rfl un9 rfl rfl) ?_
        first
          | refine TA.tk 4 31 rfl rfl rfl (Val.convI rfl iu5 in3 (w_i64 (by omega) (by omega))) ?_
          | refine TA.tk 4 31 rfl rfl rfl (Val.convI rfl iu5 in3 rfl) ?_
        refine TA.tk 5 63 rfl rfl rfl (Val.move rfl) ?_
        first
          | refine TA.tk 6 127 rfl rfl rfl (Val.indexL (i := 5) rfl rfl un9 rfl (by first | decide | omega)) ?_
          | refine TA.tk 6 127 rfl rfl rfl (Val.indexS rfl rfl un9 rfl rfl) ?_
        first
          | refine TA.tk 7 255 rfl rfl rfl (Val.convI rfl iu5 in3 (w_i64 (by omega) (by omega))) ?_
          | refine TA.tk 7 255 rfl rfl rfl (Val.convI rfl iu5 in3 rfl) ?_
        first
          | refine TA.tk 8 511 rfl rfl rfl (Val.mul rfl rfl (w_i64 (by omega) (by omega))) ?_
          | refine TA.tk 8 511 rfl rfl rfl (Val.mul rfl rfl rfl) ?_
        refine TA.tk 9 1023 rfl rfl rfl (Val.add rfl rfl (r := (plOf l : Nat)) (by rw [w_i64 (by omega) (by omega)]; simp only [plOf]; omega)) ?_
        refine TA.tk 10 2047 rfl rfl rfl (Val.move rfl) ?_
        first
          | refine TA.tk 11 4095 rfl rfl rfl (Val.indexL (i := 6) rfl rfl un9 rfl (by first | decide | omega)) ?_
          | refine TA.tk 11 4095 rfl rfl rfl (Val.indexS rfl rfl un9 rfl rfl) ?_
        first
          | refine TA.tk 12 8191 rfl rfl rfl (Val.same (v' := .int .i64 (kdOf l : Nat)) (Val.convI rfl iu5 in3 (w_i64 (by omega) (by omega))) (rfl)) ?_
          | refine TA.tk 12 8191 rfl rfl rfl (Val.same (v' := .int .i64 (kdOf l : Nat)) (Val.convI rfl iu5 in3 rfl) (rfl)) ?_
        refine TA.tk 13 16383 rfl rfl rfl (Val.move rfl) ?_
        refine TA.tk 14 32767 rfl rfl rfl (Val.move rfl) ?_
        first
          | refine TA.tk 15 65535 rfl rfl rfl (Val.indexL (i := 7) rfl rfl un9 rfl (by first | decide | omega)) ?_
          | refine TA.tk 15 65535 rfl rfl rfl (Val.indexS rfl rfl un9 rfl rfl) ?_
        first
          | refine TA.tk 16 131071 rfl rfl rfl (Val.convI rfl iu5 in3 (w_i64 (by omega) (by omega))) ?_
          | refine TA.tk 16 131071 rfl rfl rfl (Val.convI rfl iu5 in3 rfl) ?_
        refine TA.tk 17 262143 rfl rfl rfl (Val.min rfl rfl (r := (nOf l : Nat)) (by simp only [nOf]; split <;> omega)) ?_
        refine TA.tk 18 524287 rfl rfl rfl (Val.add rfl rfl (r := ((8 + nOf l : Nat) : Int)) (by rw [w_i64 (by omega) (by omega)]; omega)) ?_
        refine TA.tk 19 1048575 rfl rfl rfl (Val.same (v' := .string (ofL (dOf l))) (Val.sliceL (i := 8) (j := 8 + nOf l) rfl un9 rfl rfl rfl rfl (by omega) (by omega)) (by rw [dOf_alt])) ?_
        refine TA.tk 20 2097151 rfl rfl rfl (Val.buildS pl28 ze28 rfl rfl) ?_
        refine TA.one 21 (by kernel_rfl) ?_
        refine TO.dz 4194303 (some 7) rfl rfl rfl rfl (Does.alloc ze28 rfl) ?_
        rintro _ _ ⟨b6, rfl, rfl⟩
        refine roK ?_
        refine TA.one 22 (by kernel_rfl) ?_
        first
          | refine TO.dz 8388607 none rfl rfl rfl rfl (Does.store (i := 0) rfl rfl rfl sz28 rfl rfl (by first | decide | omega) rfl rfl) ?_
          | refine TO.dz 8388607 none rfl rfl rfl rfl (Does.store (i := 1) rfl rfl rfl sz28 rfl rfl (by first | decide | omega) rfl rfl) ?_
          | refine TO.dz 8388607 none rfl rfl rfl rfl (Does.store (i := 2) rfl rfl rfl sz28 rfl rfl (by first | decide | omega) rfl rfl) ?_
          | refine TO.dz 8388607 none rfl rfl rfl rfl (Does.store (i := 3) rfl rfl rfl sz28 rfl rfl (by first | decide | omega) rfl rfl) ?_
          | refine TO.dz 8388607 none rfl rfl rfl rfl (Does.store (i := 4) rfl rfl rfl sz28 rfl rfl (by first | decide | omega) rfl rfl) ?_
          | refine TO.dz 8388607 none rfl rfl rfl rfl (Does.store (i := 5) rfl rfl rfl sz28 rfl rfl (by first | decide | omega) rfl rfl) ?_
        rintro _ _ ⟨rfl, rfl⟩
        refine roK ?_
        refine TA.done (by kernel_rfl) ?_
        refine AtX.then ?_
        refine TC.env (E' := [(0, _), (2, _), (3, _), (4, _), (7, _)]) (Sub.cons rfl (Sub.cons rfl (Sub.cons rfl (Sub.cons rfl (Sub.cons rfl (Sub.nil _)))))) ?_
        refine TC.seq ?_
        refine TC.seq ?_
        refine TC.region ?_
        first
          | refine TL.val rfl rfl (Nat.le_of_ble_eq_true rfl) (Val.loadAgg 0 rfl ag28 sz28 rfl rfl rfl) ?_
          | refine TL.val rfl rfl (Nat.le_of_ble_eq_true rfl) (Val.loadAgg 1 rfl ag28 sz28 rfl rfl rfl) ?_
          | refine TL.val rfl rfl (Nat.le_of_ble_eq_true rfl) (Val.loadAgg 2 rfl ag28 sz28 rfl rfl rfl) ?_
          | refine TL.val rfl rfl (Nat.le_of_ble_eq_true rfl) (Val.loadAgg 3 rfl ag28 sz28 rfl rfl rfl) ?_
          | refine TL.val rfl rfl (Nat.le_of_ble_eq_true rfl) (Val.loadAgg 4 rfl ag28 sz28 rfl rfl rfl) ?_
          | refine TL.val rfl rfl (Nat.le_of_ble_eq_true rfl) (Val.loadAgg 5 rfl ag28 sz28 rfl rfl rfl) ?_
        refine TL.does (some 59) rfl rfl rfl (Does.callF go11 rfl (PutCell_fn _ _ _ _ _)) ?_
        rintro _ _ ⟨rfl, rfl⟩
        refine TL.val rfl rfl (Nat.le_of_ble_eq_true rfl) (Val.move rfl) ?_
        refine TL.val rfl rfl (Nat.le_of_ble_eq_true rfl) (Val.extract rfl rfl) ?_
        refine TL.val rfl rfl (Nat.le_of_ble_eq_true rfl) (Val.extract rfl rfl) ?_
        refine TL.val rfl rfl (Nat.le_of_ble_eq_true rfl) (Val.assign rfl) ?_
        refine TL.val rfl rfl (Nat.le_of_ble_eq_true rfl) (Val.assign rfl) ?_
        refine TL.nil ?_
        refine AtX.then ?_
        refine TC.env (E' := [(0, _), (2, _), (3, _), (4, _), (7, _), (8, _), (9, _)]) (Sub.cons rfl (Sub.cons rfl (Sub.cons rfl (Sub.cons rfl (Sub.cons rfl (Sub.cons rfl (Sub.cons rfl (Sub.nil _)))))))) ?_
        refine TC.seq ?_
        have hq := putP_iff hl
        obtain ⟨r, hr⟩ : ∃ r, r = putP (passOf l : Nat) (plOf l : Nat) (kdOf l : Nat) (dOf l) := ⟨_, rfl⟩
        rw [← hr] at hq ⊢
        refine TC.region ?_
        refine TL.val rfl rfl (Nat.le_of_ble_eq_true rfl) (Val.move rfl) ?_
        refine TL.val rfl rfl (Nat.le_of_ble_eq_true rfl) (Val.neqI rfl rfl) ?_
        refine TL.val rfl rfl (Nat.le_of_ble_eq_true rfl) (Val.move rfl) ?_
        refine TL.gen (fun g8 hg8 => ?_)
        refine TL.gval rfl rfl (Nat.le_of_ble_eq_true rfl) rfl (Nat.le_of_ble_eq_true rfl) rfl (fun hg => by subst hg; exact (Val.move rfl)) ?_
        refine TL.gval rfl rfl (Nat.le_of_ble_eq_true rfl) rfl (Nat.le_of_ble_eq_true rfl) rfl (fun hg => by subst hg; exact (Val.move rfl)) ?_
        first
          | refine TL.gval rfl rfl (Nat.le_of_ble_eq_true rfl) rfl (Nat.le_of_ble_eq_true rfl) rfl (fun hg => by subst hg; exact (Val.neqL rfl rfl)) ?_
          | refine TL.gval rfl rfl (Nat.le_of_ble_eq_true rfl) rfl (Nat.le_of_ble_eq_true rfl) rfl (fun hg => by subst hg; exact (Val.neqS rfl rfl)) ?_
        first
          | refine TL.val rfl rfl (Nat.le_of_ble_eq_true rfl) (Val.pickAnd rfl rfl rfl) ?_
          | refine TL.val rfl rfl (Nat.le_of_ble_eq_true rfl) (Val.pickOr rfl rfl rfl) ?_
          | refine TL.val rfl rfl (Nat.le_of_ble_eq_true rfl) (Val.pick rfl rfl rfl) ?_
        refine TL.nil ?_
        refine AtX.then ?_
        refine TC.env (E' := [(2, _), (3, _), (4, _), (7, _), (68, _)]) (Sub.cons rfl (Sub.cons rfl (Sub.cons rfl (Sub.cons rfl (Sub.cons rfl (Sub.nil _)))))) ?_
        first | refine TC.condP rfl (fun c3 => ?_) (fun c3 => ?_) | refine TC.condN rfl (fun c3 => ?_) (fun c3 => ?_) | refine TC.condB rfl (fun c3 => ?_) (fun c3 => ?_) | refine TC.cond rfl (fun c3 => ?_) (fun c3 => ?_)
        · skip
          refine TC.env (E' := [(2, _), (3, _), (4, _), (7, _)]) (Sub.cons rfl (Sub.cons rfl (Sub.cons rfl (Sub.cons rfl (Sub.nil _))))) ?_
          refine TC.seq ?_
          refine TC.region ?_
          refine TL.val rfl rfl (Nat.le_of_ble_eq_true rfl) (Val.buildS pl28 ze28 rfl rfl) ?_
          first
            | refine TL.does none rfl rfl rfl (Does.store (i := 0) rfl rfl rfl sz28 rfl rfl (by first | decide | omega) rfl rfl) ?_
            | refine TL.does none rfl rfl rfl (Does.store (i := 1) rfl rfl rfl sz28 rfl rfl (by first | decide | omega) rfl rfl) ?_
            | refine TL.does none rfl rfl rfl (Does.store (i := 2) rfl rfl rfl sz28 rfl rfl (by first | decide | omega) rfl rfl) ?_
            | refine TL.does none rfl rfl rfl (Does.store (i := 3) rfl rfl rfl sz28 rfl rfl (by first | decide | omega) rfl rfl) ?_
            | refine TL.does none rfl rfl rfl (Does.store (i := 4) rfl rfl rfl sz28 rfl rfl (by first | decide | omega) rfl rfl) ?_
            | refine TL.does none rfl rfl rfl (Does.store (i := 5) rfl rfl rfl sz28 rfl rfl (by first | decide | omega) rfl rfl) ?_
          rintro _ _ ⟨rfl, rfl⟩
          refine TL.val rfl rfl (Nat.le_of_ble_eq_true rfl) (Val.assign rfl) ?_
          refine TL.val rfl rfl (Nat.le_of_ble_eq_true rfl) (Val.assign rfl) ?_
          refine TL.nil ?_
          refine AtX.then ?_
          refine TC.env (E' := [(2, _), (3, _), (4, _), (7, _)]) (Sub.cons rfl (Sub.cons rfl (Sub.cons rfl (Sub.cons rfl (Sub.nil _))))) ?_
          first
            | refine TC.ret3 (fn := Try.f13) (fun _ _ h => h) rfl (RV.agg (i := 0) rfl ag28 sz28 rfl rfl rfl) (RV.tmp rfl) (RV.tmp rfl) (M' := M) (by repeat (first | exact ro_refl | exact ro_pre | refine ro_tail ?_ | refine ro_app ?_)) ?_
            | refine TC.ret3 (fn := Try.f13) (fun _ _ h => h) rfl (RV.agg (i := 1) rfl ag28 sz28 rfl rfl rfl) (RV.tmp rfl) (RV.tmp rfl) (M' := M) (by repeat (first | exact ro_refl | exact ro_pre | refine ro_tail ?_ | refine ro_app ?_)) ?_
            | refine TC.ret3 (fn := Try.f13) (fun _ _ h => h) rfl (RV.agg (i := 2) rfl ag28 sz28 rfl rfl rfl) (RV.tmp rfl) (RV.tmp rfl) (M' := M) (by repeat (first | exact ro_refl | exact ro_pre | refine ro_tail ?_ | refine ro_app ?_)) ?_
            | refine TC.ret3 (fn := Try.f13) (fun _ _ h => h) rfl (RV.agg (i := 3) rfl ag28 sz28 rfl rfl rfl) (RV.tmp rfl) (RV.tmp rfl) (M' := M) (by repeat (first | exact ro_refl | exact ro_pre | refine ro_tail ?_ | refine ro_app ?_)) ?_
            | refine TC.ret3 (fn := Try.f13) (fun _ _ h => h) rfl (RV.agg (i := 4) rfl ag28 sz28 rfl rfl rfl) (RV.tmp rfl) (RV.tmp rfl) (M' := M) (by repeat (first | exact ro_refl | exact ro_pre | refine ro_tail ?_ | refine ro_app ?_)) ?_
            | refine TC.ret3 (fn := Try.f13) (fun _ _ h => h) rfl (RV.agg (i := 5) rfl ag28 sz28 rfl rfl rfl) (RV.tmp rfl) (RV.tmp rfl) (M' := M) (by repeat (first | exact ro_refl | exact ro_pre | refine ro_tail ?_ | refine ro_app ?_)) ?_
          first
            | (rw [getP_1 (by first | omega | (simp at c1; omega))]; exact ⟨rfl, rfl⟩)
            | (rw [getP_2 hl (by first | assumption | simpa using c2 | simpa using c3 | simpa using c4)]; exact ⟨rfl, rfl⟩)
            | (rw [getP_4 hl hw (hq.1 (by grind))]; exact ⟨rfl, rfl⟩)
            | (rw [getP_3 hl hw (fun h => by have := hq.2 h; grind)]; exact ⟨rfl, rfl⟩)
        · skip
          refine TC.env (E' := [(2, _), (3, _), (4, _), (7, _)]) (Sub.cons rfl (Sub.cons rfl (Sub.cons rfl (Sub.cons rfl (Sub.nil _))))) ?_
          refine TC.skip ?_
          refine AtX.then ?_
          refine TC.env (E' := [(2, _), (3, _), (4, _), (7, _)]) (Sub.cons rfl (Sub.cons rfl (Sub.cons rfl (Sub.cons rfl (Sub.nil _))))) ?_
          refine TC.seq ?_
          refine TC.region ?_
          first
            | refine TL.val rfl rfl (Nat.le_of_ble_eq_true rfl) (Val.loadAgg 0 rfl ag28 sz28 rfl rfl rfl) ?_
            | refine TL.val rfl rfl (Nat.le_of_ble_eq_true rfl) (Val.loadAgg 1 rfl ag28 sz28 rfl rfl rfl) ?_
            | refine TL.val rfl rfl (Nat.le_of_ble_eq_true rfl) (Val.loadAgg 2 rfl ag28 sz28 rfl rfl rfl) ?_
            | refine TL.val rfl rfl (Nat.le_of_ble_eq_true rfl) (Val.loadAgg 3 rfl ag28 sz28 rfl rfl rfl) ?_
            | refine TL.val rfl rfl (Nat.le_of_ble_eq_true rfl) (Val.loadAgg 4 rfl ag28 sz28 rfl rfl rfl) ?_
            | refine TL.val rfl rfl (Nat.le_of_ble_eq_true rfl) (Val.loadAgg 5 rfl ag28 sz28 rfl rfl rfl) ?_
          first
            | refine TL.does none rfl rfl rfl (Does.store (i := 0) rfl rfl rfl sz28 rfl rfl (by first | decide | omega) rfl rfl) ?_
            | refine TL.does none rfl rfl rfl (Does.store (i := 1) rfl rfl rfl sz28 rfl rfl (by first | decide | omega) rfl rfl) ?_
            | refine TL.does none rfl rfl rfl (Does.store (i := 2) rfl rfl rfl sz28 rfl rfl (by first | decide | omega) rfl rfl) ?_
            | refine TL.does none rfl rfl rfl (Does.store (i := 3) rfl rfl rfl sz28 rfl rfl (by first | decide | omega) rfl rfl) ?_
            | refine TL.does none rfl rfl rfl (Does.store (i := 4) rfl rfl rfl sz28 rfl rfl (by first | decide | omega) rfl rfl) ?_
            | refine TL.does none rfl rfl rfl (Does.store (i := 5) rfl rfl rfl sz28 rfl rfl (by first | decide | omega) rfl rfl) ?_
          rintro _ _ ⟨rfl, rfl⟩
          refine TL.val rfl rfl (Nat.le_of_ble_eq_true rfl) (Val.assign rfl) ?_
          refine TL.val rfl rfl (Nat.le_of_ble_eq_true rfl) (Val.assign rfl) ?_
          refine TL.nil ?_
          refine AtX.then ?_
          refine TC.env (E' := [(2, _), (3, _), (4, _)]) (Sub.cons rfl (Sub.cons rfl (Sub.cons rfl (Sub.nil _)))) ?_
          first
            | refine TC.ret3 (fn := Try.f13) (fun _ _ h => h) rfl (RV.agg (i := 0) rfl ag28 sz28 rfl rfl rfl) (RV.tmp rfl) (RV.tmp rfl) (M' := M) (by repeat (first | exact ro_refl | exact ro_pre | refine ro_tail ?_ | refine ro_app ?_)) ?_
            | refine TC.ret3 (fn := Try.f13) (fun _ _ h => h) rfl (RV.agg (i := 1) rfl ag28 sz28 rfl rfl rfl) (RV.tmp rfl) (RV.tmp rfl) (M' := M) (by repeat (first | exact ro_refl | exact ro_pre | refine ro_tail ?_ | refine ro_app ?_)) ?_
            | refine TC.ret3 (fn := Try.f13) (fun _ _ h => h) rfl (RV.agg (i := 2) rfl ag28 sz28 rfl rfl rfl) (RV.tmp rfl) (RV.tmp rfl) (M' := M) (by repeat (first | exact ro_refl | exact ro_pre | refine ro_tail ?_ | refine ro_app ?_)) ?_
            | refine TC.ret3 (fn := Try.f13) (fun _ _ h => h) rfl (RV.agg (i := 3) rfl ag28 sz28 rfl rfl rfl) (RV.tmp rfl) (RV.tmp rfl) (M' := M) (by repeat (first | exact ro_refl | exact ro_pre | refine ro_tail ?_ | refine ro_app ?_)) ?_
            | refine TC.ret3 (fn := Try.f13) (fun _ _ h => h) rfl (RV.agg (i := 4) rfl ag28 sz28 rfl rfl rfl) (RV.tmp rfl) (RV.tmp rfl) (M' := M) (by repeat (first | exact ro_refl | exact ro_pre | refine ro_tail ?_ | refine ro_app ?_)) ?_
            | refine TC.ret3 (fn := Try.f13) (fun _ _ h => h) rfl (RV.agg (i := 5) rfl ag28 sz28 rfl rfl rfl) (RV.tmp rfl) (RV.tmp rfl) (M' := M) (by repeat (first | exact ro_refl | exact ro_pre | refine ro_tail ?_ | refine ro_app ?_)) ?_
          first
            | (rw [getP_1 (by first | omega | (simp at c1; omega))]; exact ⟨rfl, rfl⟩)
            | (rw [getP_2 hl (by first | assumption | simpa using c2 | simpa using c3 | simpa using c4)]; exact ⟨rfl, rfl⟩)
            | (rw [getP_4 hl hw (hq.1 (by grind))]; exact ⟨rfl, rfl⟩)
            | (rw [getP_3 hl hw (fun h => by have := hq.2 h; grind)]; exact ⟨rfl, rfl⟩)
    | true =>
      refine TA.tkP 11 4095 rfl rfl rfl rfl rfl rfl ?_
      refine TA.tkP 12 8191 rfl rfl rfl rfl rfl rfl ?_
      first
        | refine TA.tk 13 16383 rfl rfl rfl (Val.same (v' := .bool (!wholeB l)) (Val.pickAnd rfl rfl rfl) (by rw [← whole_ref]; clear hplt h4 h5 h6 h7; generalize decide (((passOf l : Nat) : Int) = 0) = A at *; generalize decide (((passOf l : Nat) : Int) > 250) = B at *; generalize decide (((l.getD 63 0).toNat : Int) ≠ ((markB (passOf l : Nat)).toNat : Int)) = C at *; subst_vars; cases A <;> cases B <;> cases C <;> first | rfl | contradiction)) ?_
        | refine TA.tk 13 16383 rfl rfl rfl (Val.same (v' := .bool (!wholeB l)) (Val.pickOr rfl rfl rfl) (by rw [← whole_ref]; clear hplt h4 h5 h6 h7; generalize decide (((passOf l : Nat) : Int) = 0) = A at *; generalize decide (((passOf l : Nat) : Int) > 250) = B at *; generalize decide (((l.getD 63 0).toNat : Int) ≠ ((markB (passOf l : Nat)).toNat : Int)) = C at *; subst_vars; cases A <;> cases B <;> cases C <;> first | rfl | contradiction)) ?_
        | refine TA.tk 13 16383 rfl rfl rfl (Val.same (v' := .bool (!wholeB l)) (Val.pick rfl rfl rfl) (by rw [← whole_ref]; clear hplt h4 h5 h6 h7; generalize decide (((passOf l : Nat) : Int) = 0) = A at *; generalize decide (((passOf l : Nat) : Int) > 250) = B at *; generalize decide (((l.getD 63 0).toNat : Int) ≠ ((markB (passOf l : Nat)).toNat : Int)) = C at *; subst_vars; cases A <;> cases B <;> cases C <;> first | rfl | contradiction)) ?_
      refine TA.done (by kernel_rfl) ?_
      refine AtX.then ?_
      refine TC.env (E' := [(0, _), (2, _), (3, _), (4, _), (5, _), (34, _)]) (Sub.cons rfl (Sub.cons rfl (Sub.cons rfl (Sub.cons rfl (Sub.cons rfl (Sub.cons rfl (Sub.nil _))))))) ?_
      first | refine TC.condP rfl (fun c4 => ?_) (fun c4 => ?_) | refine TC.condN rfl (fun c4 => ?_) (fun c4 => ?_) | refine TC.condB rfl (fun c4 => ?_) (fun c4 => ?_) | refine TC.cond rfl (fun c4 => ?_) (fun c4 => ?_)
      · skip
        refine TC.env (E' := [(0, _), (2, _), (3, _), (4, _), (5, _)]) (Sub.cons rfl (Sub.cons rfl (Sub.cons rfl (Sub.cons rfl (Sub.cons rfl (Sub.nil _)))))) ?_
        refine TC.seq ?_
        refine TC.region ?_
        refine TL.val rfl rfl (Nat.le_of_ble_eq_true rfl) (Val.buildS pl28 ze28 rfl rfl) ?_
        first
          | refine TL.does none rfl rfl rfl (Does.store (i := 0) rfl rfl rfl sz28 rfl rfl (by first | decide | omega) rfl rfl) ?_
          | refine TL.does none rfl rfl rfl (Does.store (i := 1) rfl rfl rfl sz28 rfl rfl (by first | decide | omega) rfl rfl) ?_
          | refine TL.does none rfl rfl rfl (Does.store (i := 2) rfl rfl rfl sz28 rfl rfl (by first | decide | omega) rfl rfl) ?_
          | refine TL.does none rfl rfl rfl (Does.store (i := 3) rfl rfl rfl sz28 rfl rfl (by first | decide | omega) rfl rfl) ?_
          | refine TL.does none rfl rfl rfl (Does.store (i := 4) rfl rfl rfl sz28 rfl rfl (by first | decide | omega) rfl rfl) ?_
          | refine TL.does none rfl rfl rfl (Does.store (i := 5) rfl rfl rfl sz28 rfl rfl (by first | decide | omega) rfl rfl) ?_
        rintro _ _ ⟨rfl, rfl⟩
        refine TL.val rfl rfl (Nat.le_of_ble_eq_true rfl) (Val.assign rfl) ?_
        refine TL.val rfl rfl (Nat.le_of_ble_eq_true rfl) (Val.assign rfl) ?_
        refine TL.nil ?_
        refine AtX.then ?_
        refine TC.env (E' := [(0, _), (2, _), (3, _), (4, _), (5, _)]) (Sub.cons rfl (Sub.cons rfl (Sub.cons rfl (Sub.cons rfl (Sub.cons rfl (Sub.nil _)))))) ?_
        first
          | refine TC.ret3 (fn := Try.f13) (fun _ _ h => h) rfl (RV.agg (i := 0) rfl ag28 sz28 rfl rfl rfl) (RV.tmp rfl) (RV.tmp rfl) (M' := M) (by repeat (first | exact ro_refl | exact ro_pre | refine ro_tail ?_ | refine ro_app ?_)) ?_
          | refine TC.ret3 (fn := Try.f13) (fun _ _ h => h) rfl (RV.agg (i := 1) rfl ag28 sz28 rfl rfl rfl) (RV.tmp rfl) (RV.tmp rfl) (M' := M) (by repeat (first | exact ro_refl | exact ro_pre | refine ro_tail ?_ | refine ro_app ?_)) ?_
          | refine TC.ret3 (fn := Try.f13) (fun _ _ h => h) rfl (RV.agg (i := 2) rfl ag28 sz28 rfl rfl rfl) (RV.tmp rfl) (RV.tmp rfl) (M' := M) (by repeat (first | exact ro_refl | exact ro_pre | refine ro_tail ?_ | refine ro_app ?_)) ?_
          | refine TC.ret3 (fn := Try.f13) (fun _ _ h => h) rfl (RV.agg (i := 3) rfl ag28 sz28 rfl rfl rfl) (RV.tmp rfl) (RV.tmp rfl) (M' := M) (by repeat (first | exact ro_refl | exact ro_pre | refine ro_tail ?_ | refine ro_app ?_)) ?_
          | refine TC.ret3 (fn := Try.f13) (fun _ _ h => h) rfl (RV.agg (i := 4) rfl ag28 sz28 rfl rfl rfl) (RV.tmp rfl) (RV.tmp rfl) (M' := M) (by repeat (first | exact ro_refl | exact ro_pre | refine ro_tail ?_ | refine ro_app ?_)) ?_
          | refine TC.ret3 (fn := Try.f13) (fun _ _ h => h) rfl (RV.agg (i := 5) rfl ag28 sz28 rfl rfl rfl) (RV.tmp rfl) (RV.tmp rfl) (M' := M) (by repeat (first | exact ro_refl | exact ro_pre | refine ro_tail ?_ | refine ro_app ?_)) ?_
        first
          | (rw [getP_1 (by first | omega | (simp at c1; omega))]; exact ⟨rfl, rfl⟩)
          | (rw [getP_2 hl (by first | assumption | simpa using c2 | simpa using c3 | simpa using c4)]; exact ⟨rfl, rfl⟩)
          | (rw [getP_4 hl hw (hq.1 (by grind))]; exact ⟨rfl, rfl⟩)
          | (rw [getP_3 hl hw (fun h => by have := hq.2 h; grind)]; exact ⟨rfl, rfl⟩)
      · skip
        refine TC.env (E' := [(0, _), (2, _), (3, _), (4, _), (5, _)]) (Sub.cons rfl (Sub.cons rfl (Sub.cons rfl (Sub.cons rfl (Sub.cons rfl (Sub.nil _)))))) ?_
        refine TC.skip ?_
        refine AtX.then ?_
        refine TC.env (E' := [(0, _), (2, _), (3, _), (4, _), (5, _)]) (Sub.cons rfl (Sub.cons rfl (Sub.cons rfl (Sub.cons rfl (Sub.cons rfl (Sub.nil _)))))) ?_
        refine TC.seq ?_
        have hw : wholeB l = true := by first | assumption | simpa using c2 | simpa using c3 | simpa using c4
        have hpo := whole_le hw
        have hn48 : nOf l ≤ 48 := by simp only [nOf]; omega
        refine TC.drawL M mixed 23 ?_
        refine TA.tk 0 1 rfl rfl rfl (Val.move rfl) ?_
        first
          | refine TA.tk 1 3 rfl rfl rfl (Val.convI rfl iu55 in22 (w_u32 (by omega) (by omega))) ?_
          | refine TA.tk 1 3 rfl rfl rfl (Val.convI rfl iu55 in22 rfl) ?_
        refine TA.tk 2 7 rfl rfl rfl (Val.move rfl) ?_
        first
          | refine TA.tk 3 15 rfl rfl rfl (Val.indexL (i := 4) rfl rfl un9 rfl (by first | decide | omega)) ?_
          | refine TA.tk 3 15 rfl rfl rfl (Val.indexS rfl rfl un9 rfl rfl) ?_
        first
          | refine TA.tk 4 31 rfl rfl rfl (Val.convI rfl iu5 in3 (w_i64 (by omega) (by omega))) ?_
          | refine TA.tk 4 31 rfl rfl rfl (Val.convI rfl iu5 in3 rfl) ?_
        refine TA.tk 5 63 rfl rfl rfl (Val.move rfl) ?_
        first
          | refine TA.tk 6 127 rfl rfl rfl (Val.indexL (i := 5) rfl rfl un9 rfl (by first | decide | omega)) ?_
          | refine TA.tk 6 127 rfl rfl rfl (Val.indexS rfl rfl un9 rfl rfl) ?_
        first
          | refine TA.tk 7 255 rfl rfl rfl (Val.convI rfl iu5 in3 (w_i64 (by omega) (by omega))) ?_
          | refine TA.tk 7 255 rfl rfl rfl (Val.convI rfl iu5 in3 rfl) ?_
        first
          | refine TA.tk 8 511 rfl rfl rfl (Val.mul rfl rfl (w_i64 (by omega) (by omega))) ?_
          | refine TA.tk 8 511 rfl rfl rfl (Val.mul rfl rfl rfl) ?_
        refine TA.tk 9 1023 rfl rfl rfl (Val.add rfl rfl (r := (plOf l : Nat)) (by rw [w_i64 (by omega) (by omega)]; simp only [plOf]; omega)) ?_
        refine TA.tk 10 2047 rfl rfl rfl (Val.move rfl) ?_
        first
          | refine TA.tk 11 4095 rfl rfl rfl (Val.indexL (i := 6) rfl rfl un9 rfl (by first | decide | omega)) ?_
          | refine TA.tk 11 4095 rfl rfl rfl (Val.indexS rfl rfl un9 rfl rfl) ?_
        first
          | refine TA.tk 12 8191 rfl rfl rfl (Val.same (v' := .int .i64 (kdOf l : Nat)) (Val.convI rfl iu5 in3 (w_i64 (by omega) (by omega))) (rfl)) ?_
          | refine TA.tk 12 8191 rfl rfl rfl (Val.same (v' := .int .i64 (kdOf l : Nat)) (Val.convI rfl iu5 in3 rfl) (rfl)) ?_
        refine TA.tk 13 16383 rfl rfl rfl (Val.move rfl) ?_
        refine TA.tk 14 32767 rfl rfl rfl (Val.move rfl) ?_
        first
          | refine TA.tk 15 65535 rfl rfl rfl (Val.indexL (i := 7) rfl rfl un9 rfl (by first | decide | omega)) ?_
          | refine TA.tk 15 65535 rfl rfl rfl (Val.indexS rfl rfl un9 rfl rfl) ?_
        first
          | refine TA.tk 16 131071 rfl rfl rfl (Val.convI rfl iu5 in3 (w_i64 (by omega) (by omega))) ?_
          | refine TA.tk 16 131071 rfl rfl rfl (Val.convI rfl iu5 in3 rfl) ?_
        refine TA.tk 17 262143 rfl rfl rfl (Val.min rfl rfl (r := (nOf l : Nat)) (by simp only [nOf]; split <;> omega)) ?_
        refine TA.tk 18 524287 rfl rfl rfl (Val.add rfl rfl (r := ((8 + nOf l : Nat) : Int)) (by rw [w_i64 (by omega) (by omega)]; omega)) ?_
        refine TA.tk 19 1048575 rfl rfl rfl (Val.same (v' := .string (ofL (dOf l))) (Val.sliceL (i := 8) (j := 8 + nOf l) rfl un9 rfl rfl rfl rfl (by omega) (by omega)) (by rw [dOf_alt])) ?_
        refine TA.tk 20 2097151 rfl rfl rfl (Val.buildS pl28 ze28 rfl rfl) ?_
        refine TA.one 21 (by kernel_rfl) ?_
        refine TO.dz 4194303 (some 7) rfl rfl rfl rfl (Does.alloc ze28 rfl) ?_
        rintro _ _ ⟨b9, rfl, rfl⟩
        refine roK ?_
        refine TA.one 22 (by kernel_rfl) ?_
        first
          | refine TO.dz 8388607 none rfl rfl rfl rfl (Does.store (i := 0) rfl rfl rfl sz28 rfl rfl (by first | decide | omega) rfl rfl) ?_
          | refine TO.dz 8388607 none rfl rfl rfl rfl (Does.store (i := 1) rfl rfl rfl sz28 rfl rfl (by first | decide | omega) rfl rfl) ?_
          | refine TO.dz 8388607 none rfl rfl rfl rfl (Does.store (i := 2) rfl rfl rfl sz28 rfl rfl (by first | decide | omega) rfl rfl) ?_
          | refine TO.dz 8388607 none rfl rfl rfl rfl (Does.store (i := 3) rfl rfl rfl sz28 rfl rfl (by first | decide | omega) rfl rfl) ?_
          | refine TO.dz 8388607 none rfl rfl rfl rfl (Does.store (i := 4) rfl rfl rfl sz28 rfl rfl (by first | decide | omega) rfl rfl) ?_
          | refine TO.dz 8388607 none rfl rfl rfl rfl (Does.store (i := 5) rfl rfl rfl sz28 rfl rfl (by first | decide | omega) rfl rfl) ?_
        rintro _ _ ⟨rfl, rfl⟩
        refine roK ?_
        refine TA.done (by kernel_rfl) ?_
        refine AtX.then ?_
        refine TC.env (E' := [(0, _), (2, _), (3, _), (4, _), (7, _)]) (Sub.cons rfl (Sub.cons rfl (Sub.cons rfl (Sub.cons rfl (Sub.cons rfl (Sub.nil _)))))) ?_
        refine TC.seq ?_
        refine TC.seq ?_
        refine TC.region ?_
        first
          | refine TL.val rfl rfl (Nat.le_of_ble_eq_true rfl) (Val.loadAgg 0 rfl ag28 sz28 rfl rfl rfl) ?_
          | refine TL.val rfl rfl (Nat.le_of_ble_eq_true rfl) (Val.loadAgg 1 rfl ag28 sz28 rfl rfl rfl) ?_
          | refine TL.val rfl rfl (Nat.le_of_ble_eq_true rfl) (Val.loadAgg 2 rfl ag28 sz28 rfl rfl rfl) ?_
          | refine TL.val rfl rfl (Nat.le_of_ble_eq_true rfl) (Val.loadAgg 3 rfl ag28 sz28 rfl rfl rfl) ?_
          | refine TL.val rfl rfl (Nat.le_of_ble_eq_true rfl) (Val.loadAgg 4 rfl ag28 sz28 rfl rfl rfl) ?_
          | refine TL.val rfl rfl (Nat.le_of_ble_eq_true rfl) (Val.loadAgg 5 rfl ag28 sz28 rfl rfl rfl) ?_
        refine TL.does (some 59) rfl rfl rfl (Does.callF go11 rfl (PutCell_fn _ _ _ _ _)) ?_
        rintro _ _ ⟨rfl, rfl⟩
        refine TL.val rfl rfl (Nat.le_of_ble_eq_true rfl) (Val.move rfl) ?_
        refine TL.val rfl rfl (Nat.le_of_ble_eq_true rfl) (Val.extract rfl rfl) ?_
        refine TL.val rfl rfl (Nat.le_of_ble_eq_true rfl) (Val.extract rfl rfl) ?_
        refine TL.val rfl rfl (Nat.le_of_ble_eq_true rfl) (Val.assign rfl) ?_
        refine TL.val rfl rfl (Nat.le_of_ble_eq_true rfl) (Val.assign rfl) ?_
        refine TL.nil ?_
        refine AtX.then ?_
        refine TC.env (E' := [(0, _), (2, _), (3, _), (4, _), (7, _), (8, _), (9, _)]) (Sub.cons rfl (Sub.cons rfl (Sub.cons rfl (Sub.cons rfl (Sub.cons rfl (Sub.cons rfl (Sub.cons rfl (Sub.nil _)))))))) ?_
        refine TC.seq ?_
        have hq := putP_iff hl
        obtain ⟨r, hr⟩ : ∃ r, r = putP (passOf l : Nat) (plOf l : Nat) (kdOf l : Nat) (dOf l) := ⟨_, rfl⟩
        rw [← hr] at hq ⊢
        refine TC.region ?_
        refine TL.val rfl rfl (Nat.le_of_ble_eq_true rfl) (Val.move rfl) ?_
        refine TL.val rfl rfl (Nat.le_of_ble_eq_true rfl) (Val.neqI rfl rfl) ?_
        refine TL.val rfl rfl (Nat.le_of_ble_eq_true rfl) (Val.move rfl) ?_
        refine TL.gen (fun g11 hg11 => ?_)
        refine TL.gval rfl rfl (Nat.le_of_ble_eq_true rfl) rfl (Nat.le_of_ble_eq_true rfl) rfl (fun hg => by subst hg; exact (Val.move rfl)) ?_
        refine TL.gval rfl rfl (Nat.le_of_ble_eq_true rfl) rfl (Nat.le_of_ble_eq_true rfl) rfl (fun hg => by subst hg; exact (Val.move rfl)) ?_
        first
          | refine TL.gval rfl rfl (Nat.le_of_ble_eq_true rfl) rfl (Nat.le_of_ble_eq_true rfl) rfl (fun hg => by subst hg; exact (Val.neqL rfl rfl)) ?_
          | refine TL.gval rfl rfl (Nat.le_of_ble_eq_true rfl) rfl (Nat.le_of_ble_eq_true rfl) rfl (fun hg => by subst hg; exact (Val.neqS rfl rfl)) ?_
        first
          | refine TL.val rfl rfl (Nat.le_of_ble_eq_true rfl) (Val.pickAnd rfl rfl rfl) ?_
          | refine TL.val rfl rfl (Nat.le_of_ble_eq_true rfl) (Val.pickOr rfl rfl rfl) ?_
          | refine TL.val rfl rfl (Nat.le_of_ble_eq_true rfl) (Val.pick rfl rfl rfl) ?_
        refine TL.nil ?_
        refine AtX.then ?_
        refine TC.env (E' := [(2, _), (3, _), (4, _), (7, _), (68, _)]) (Sub.cons rfl (Sub.cons rfl (Sub.cons rfl (Sub.cons rfl (Sub.cons rfl (Sub.nil _)))))) ?_
        first | refine TC.condP rfl (fun c5 => ?_) (fun c5 => ?_) | refine TC.condN rfl (fun c5 => ?_) (fun c5 => ?_) | refine TC.condB rfl (fun c5 => ?_) (fun c5 => ?_) | refine TC.cond rfl (fun c5 => ?_) (fun c5 => ?_)
        · skip
          refine TC.env (E' := [(2, _), (3, _), (4, _), (7, _)]) (Sub.cons rfl (Sub.cons rfl (Sub.cons rfl (Sub.cons rfl (Sub.nil _))))) ?_
          refine TC.seq ?_
          refine TC.region ?_
          refine TL.val rfl rfl (Nat.le_of_ble_eq_true rfl) (Val.buildS pl28 ze28 rfl rfl) ?_
          first
            | refine TL.does none rfl rfl rfl (Does.store (i := 0) rfl rfl rfl sz28 rfl rfl (by first | decide | omega) rfl rfl) ?_
            | refine TL.does none rfl rfl rfl (Does.store (i := 1) rfl rfl rfl sz28 rfl rfl (by first | decide | omega) rfl rfl) ?_
            | refine TL.does none rfl rfl rfl (Does.store (i := 2) rfl rfl rfl sz28 rfl rfl (by first | decide | omega) rfl rfl) ?_
            | refine TL.does none rfl rfl rfl (Does.store (i := 3) rfl rfl rfl sz28 rfl rfl (by first | decide | omega) rfl rfl) ?_
            | refine TL.does none rfl rfl rfl (Does.store (i := 4) rfl rfl rfl sz28 rfl rfl (by first | decide | omega) rfl rfl) ?_
            | refine TL.does none rfl rfl rfl (Does.store (i := 5) rfl rfl rfl sz28 rfl rfl (by first | decide | omega) rfl rfl) ?_
          rintro _ _ ⟨rfl, rfl⟩
          refine TL.val rfl rfl (Nat.le_of_ble_eq_true rfl) (Val.assign rfl) ?_
          refine TL.val rfl rfl (Nat.le_of_ble_eq_true rfl) (Val.assign rfl) ?_
          refine TL.nil ?_
          refine AtX.then ?_
          refine TC.env (E' := [(2, _), (3, _), (4, _), (7, _)]) (Sub.cons rfl (Sub.cons rfl (Sub.cons rfl (Sub.cons rfl (Sub.nil _))))) ?_
          first
            | refine TC.ret3 (fn := Try.f13) (fun _ _ h => h) rfl (RV.agg (i := 0) rfl ag28 sz28 rfl rfl rfl) (RV.tmp rfl) (RV.tmp rfl) (M' := M) (by repeat (first | exact ro_refl | exact ro_pre | refine ro_tail ?_ | refine ro_app ?_)) ?_
            | refine TC.ret3 (fn := Try.f13) (fun _ _ h => h) rfl (RV.agg (i := 1) rfl ag28 sz28 rfl rfl rfl) (RV.tmp rfl) (RV.tmp rfl) (M' := M) (by repeat (first | exact ro_refl | exact ro_pre | refine ro_tail ?_ | refine ro_app ?_)) ?_
            | refine TC.ret3 (fn := Try.f13) (fun _ _ h => h) rfl (RV.agg (i := 2) rfl ag28 sz28 rfl rfl rfl) (RV.tmp rfl) (RV.tmp rfl) (M' := M) (by repeat (first | exact ro_refl | exact ro_pre | refine ro_tail ?_ | refine ro_app ?_)) ?_
            | refine TC.ret3 (fn := Try.f13) (fun _ _ h => h) rfl (RV.agg (i := 3) rfl ag28 sz28 rfl rfl rfl) (RV.tmp rfl) (RV.tmp rfl) (M' := M) (by repeat (first | exact ro_refl | exact ro_pre | refine ro_tail ?_ | refine ro_app ?_)) ?_
            | refine TC.ret3 (fn := Try.f13) (fun _ _ h => h) rfl (RV.agg (i := 4) rfl ag28 sz28 rfl rfl rfl) (RV.tmp rfl) (RV.tmp rfl) (M' := M) (by repeat (first | exact ro_refl | exact ro_pre | refine ro_tail ?_ | refine ro_app ?_)) ?_
            | refine TC.ret3 (fn := Try.f13) (fun _ _ h => h) rfl (RV.agg (i := 5) rfl ag28 sz28 rfl rfl rfl) (RV.tmp rfl) (RV.tmp rfl) (M' := M) (by repeat (first | exact ro_refl | exact ro_pre | refine ro_tail ?_ | refine ro_app ?_)) ?_
          first
            | (rw [getP_1 (by first | omega | (simp at c1; omega))]; exact ⟨rfl, rfl⟩)
            | (rw [getP_2 hl (by first | assumption | simpa using c2 | simpa using c3 | simpa using c4)]; exact ⟨rfl, rfl⟩)
            | (rw [getP_4 hl hw (hq.1 (by grind))]; exact ⟨rfl, rfl⟩)
            | (rw [getP_3 hl hw (fun h => by have := hq.2 h; grind)]; exact ⟨rfl, rfl⟩)
        · skip
          refine TC.env (E' := [(2, _), (3, _), (4, _), (7, _)]) (Sub.cons rfl (Sub.cons rfl (Sub.cons rfl (Sub.cons rfl (Sub.nil _))))) ?_
          refine TC.skip ?_
          refine AtX.then ?_
          refine TC.env (E' := [(2, _), (3, _), (4, _), (7, _)]) (Sub.cons rfl (Sub.cons rfl (Sub.cons rfl (Sub.cons rfl (Sub.nil _))))) ?_
          refine TC.seq ?_
          refine TC.region ?_
          first
            | refine TL.val rfl rfl (Nat.le_of_ble_eq_true rfl) (Val.loadAgg 0 rfl ag28 sz28 rfl rfl rfl) ?_
            | refine TL.val rfl rfl (Nat.le_of_ble_eq_true rfl) (Val.loadAgg 1 rfl ag28 sz28 rfl rfl rfl) ?_
            | refine TL.val rfl rfl (Nat.le_of_ble_eq_true rfl) (Val.loadAgg 2 rfl ag28 sz28 rfl rfl rfl) ?_
            | refine TL.val rfl rfl (Nat.le_of_ble_eq_true rfl) (Val.loadAgg 3 rfl ag28 sz28 rfl rfl rfl) ?_
            | refine TL.val rfl rfl (Nat.le_of_ble_eq_true rfl) (Val.loadAgg 4 rfl ag28 sz28 rfl rfl rfl) ?_
            | refine TL.val rfl rfl (Nat.le_of_ble_eq_true rfl) (Val.loadAgg 5 rfl ag28 sz28 rfl rfl rfl) ?_
          first
            | refine TL.does none rfl rfl rfl (Does.store (i := 0) rfl rfl rfl sz28 rfl rfl (by first | decide | omega) rfl rfl) ?_
            | refine TL.does none rfl rfl rfl (Does.store (i := 1) rfl rfl rfl sz28 rfl rfl (by first | decide | omega) rfl rfl) ?_
            | refine TL.does none rfl rfl rfl (Does.store (i := 2) rfl rfl rfl sz28 rfl rfl (by first | decide | omega) rfl rfl) ?_
            | refine TL.does none rfl rfl rfl (Does.store (i := 3) rfl rfl rfl sz28 rfl rfl (by first | decide | omega) rfl rfl) ?_
            | refine TL.does none rfl rfl rfl (Does.store (i := 4) rfl rfl rfl sz28 rfl rfl (by first | decide | omega) rfl rfl) ?_
            | refine TL.does none rfl rfl rfl (Does.store (i := 5) rfl rfl rfl sz28 rfl rfl (by first | decide | omega) rfl rfl) ?_
          rintro _ _ ⟨rfl, rfl⟩
          refine TL.val rfl rfl (Nat.le_of_ble_eq_true rfl) (Val.assign rfl) ?_
          refine TL.val rfl rfl (Nat.le_of_ble_eq_true rfl) (Val.assign rfl) ?_
          refine TL.nil ?_
          refine AtX.then ?_
          refine TC.env (E' := [(2, _), (3, _), (4, _)]) (Sub.cons rfl (Sub.cons rfl (Sub.cons rfl (Sub.nil _)))) ?_
          first
            | refine TC.ret3 (fn := Try.f13) (fun _ _ h => h) rfl (RV.agg (i := 0) rfl ag28 sz28 rfl rfl rfl) (RV.tmp rfl) (RV.tmp rfl) (M' := M) (by repeat (first | exact ro_refl | exact ro_pre | refine ro_tail ?_ | refine ro_app ?_)) ?_
            | refine TC.ret3 (fn := Try.f13) (fun _ _ h => h) rfl (RV.agg (i := 1) rfl ag28 sz28 rfl rfl rfl) (RV.tmp rfl) (RV.tmp rfl) (M' := M) (by repeat (first | exact ro_refl | exact ro_pre | refine ro_tail ?_ | refine ro_app ?_)) ?_
            | refine TC.ret3 (fn := Try.f13) (fun _ _ h => h) rfl (RV.agg (i := 2) rfl ag28 sz28 rfl rfl rfl) (RV.tmp rfl) (RV.tmp rfl) (M' := M) (by repeat (first | exact ro_refl | exact ro_pre | refine ro_tail ?_ | refine ro_app ?_)) ?_
            | refine TC.ret3 (fn := Try.f13) (fun _ _ h => h) rfl (RV.agg (i := 3) rfl ag28 sz28 rfl rfl rfl) (RV.tmp rfl) (RV.tmp rfl) (M' := M) (by repeat (first | exact ro_refl | exact ro_pre | refine ro_tail ?_ | refine ro_app ?_)) ?_
            | refine TC.ret3 (fn := Try.f13) (fun _ _ h => h) rfl (RV.agg (i := 4) rfl ag28 sz28 rfl rfl rfl) (RV.tmp rfl) (RV.tmp rfl) (M' := M) (by repeat (first | exact ro_refl | exact ro_pre | refine ro_tail ?_ | refine ro_app ?_)) ?_
            | refine TC.ret3 (fn := Try.f13) (fun _ _ h => h) rfl (RV.agg (i := 5) rfl ag28 sz28 rfl rfl rfl) (RV.tmp rfl) (RV.tmp rfl) (M' := M) (by repeat (first | exact ro_refl | exact ro_pre | refine ro_tail ?_ | refine ro_app ?_)) ?_
          first
            | (rw [getP_1 (by first | omega | (simp at c1; omega))]; exact ⟨rfl, rfl⟩)
            | (rw [getP_2 hl (by first | assumption | simpa using c2 | simpa using c3 | simpa using c4)]; exact ⟨rfl, rfl⟩)
            | (rw [getP_4 hl hw (hq.1 (by grind))]; exact ⟨rfl, rfl⟩)
            | (rw [getP_3 hl hw (fun h => by have := hq.2 h; grind)]; exact ⟨rfl, rfl⟩)

end Go.Proofs.Ytbjjjapdioegpaa
