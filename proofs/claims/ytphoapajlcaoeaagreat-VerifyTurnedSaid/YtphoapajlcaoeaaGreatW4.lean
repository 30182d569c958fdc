/- Texts put together: A70, A71, A72, A54, A73, A74, A55, A56, A75. -/
import Derived.Test.YtphoapajlcaoeaaGreatW3
import Derived.Test.YtphoapajlcaoeaaGreatG2
import Derived.Test.YtphoapajlcaoeaaGreatG1
import Derived.Test.YtphoapajlcaoeaaGreatW1
/- walks -/
set_option linter.unusedVariables false
set_option linter.unusedSimpArgs false
set_option maxRecDepth 100000
set_option maxHeartbeats 4000000
namespace Go.Proofs.YtphoapajlcaoeaaGreat
open Go Go.X
/-- quorumite/wire.in -/
theorem in_fn (n lo hi : Int) (M : Hp) : FnC Tryz.prog 81 #[.int .i64 n, .int .i64 lo, .int .i64 hi] M (fun v M' => v = .bool (inB n lo hi) ∧ M = M') := by
 refine FnC.intro Tryz.func81 rfl 15 rfl (by simp) (fun z => ?_)
 refine TC.en (E' := [(0, _), (1, _), (2, _)]) ?_
 refine TC.sr ?_
 refine TL.v (Val.assign rfl) ?_
 refine TL.nt ?_
 refine TC.sr ?_
 refine TL.v (Val.move rfl) ?_
 refine TL.v (Val.move rfl) ?_
 refine TL.v (Val.geq rfl rfl) ?_
 refine TL.v (Val.move rfl) ?_
 refine TL.gen (fun g1 hg1 => ?_)
 refine TL.gv rfl rfl rfl (fun hg => by subst hg; exact (Val.move rfl)) ?_
 refine TL.gv rfl rfl rfl (fun hg => by subst hg; exact (Val.move rfl)) ?_
 refine TL.gv rfl rfl rfl (fun hg => by subst hg; exact (Val.leq rfl rfl)) ?_
 refine TL.v (Val.pickAnd rfl rfl rfl) ?_
 refine TL.v (Val.assign rfl) ?_
 refine TL.nt ?_
 refine TC.en (E' := [(6, _)]) ?_
 refine TC.r1 (hM := (fun _ h => h)) (fn := Tryz.f81) (fun _ _ h => h) rfl (RV.tmp rfl) ?_
 refine ⟨?_, rfl⟩
 subst_vars
 rfl

/-- quorumite/wire.May -/
theorem May_fn (m : Ms) (M : Hp) : FnC Tryz.prog 52 #[.agg #[.int .i64 m.kind, .int .i64 m.who, .int .i64 m.gen, .int .i64 m.seq, .int .i64 m.epoch, .int .i64 m.value, .int .i64 m.metric]] M (fun v M' => ∃ g, v = .bool g ∧ g = mayM m ∧ M = M') := by
 refine FnC.intro Tryz.func52 rfl 43 rfl (by simp) (fun z => ?_)
 refine TC.en (E' := [(0, _)]) ?_
 refine TC.sr ?_
 refine TL.d (Does.box rfl rfl) ?_
 rintro _ _ ⟨b1, rfl, rfl⟩
 refine TL.v (Val.assign rfl) ?_
 refine TL.nt ?_
 refine TC.sr ?_
 refine TL.v (Val.assign rfl) ?_
 refine TL.v (Val.assign rfl) ?_
 refine TL.nt ?_
 refine TC.seq ?_
 refine TC.sr ?_
 refine TL.v (Val.fieldAddr rfl fl39_0 sz3 rfl) ?_
 refine TL.v (Val.load 0 rfl ag3 rfl rfl) ?_
 refine TL.v (Val.eqlI rfl rfl) ?_
 refine TL.nt ?_
 refine TC.condP rfl (fun c1 => ?_) (fun c1 => ?_)
 ·
  refine TC.region ?_
  refine TL.v (Val.assign rfl) ?_
  refine TL.v (Val.assign rfl) ?_
  refine TL.nt ?_
  refine TC.sr ?_
  refine TL.v (Val.fieldAddr rfl fl39_0 sz3 rfl) ?_
  refine TL.v (Val.load 0 rfl ag3 rfl rfl) ?_
  refine TL.d (Does.callF go81 rfl (in_fn _ _ _ _)) ?_
  rintro _ _ ⟨rfl, rfl⟩
  refine TL.v (Val.move rfl) ?_
  refine TL.gen (fun g3 hg3 => ?_)
  refine TL.gv rfl rfl rfl (fun hg => by subst hg; exact (Val.fieldAddr rfl fl39_1 sz3 rfl)) ?_
  refine TL.gv rfl rfl rfl (fun hg => by subst hg; exact (Val.load 0 rfl ag3 rfl rfl)) ?_
  cases g3 with
  | false =>
   refine TL.pa ?_
   refine TL.v (Val.pick rfl rfl rfl) ?_
   refine TL.v (Val.move rfl) ?_
   refine TL.pa ?_
   refine TL.pa ?_
   refine TL.pa ?_
   refine TL.v (Val.pick rfl rfl rfl) ?_
   refine TL.v (Val.move rfl) ?_
   refine TL.pa ?_
   refine TL.pa ?_
   refine TL.pa ?_
   refine TL.v (Val.pick rfl rfl rfl) ?_
   refine TL.v (Val.move rfl) ?_
   refine TL.pa ?_
   refine TL.pa ?_
   refine TL.pa ?_
   refine TL.v (Val.pick rfl rfl rfl) ?_
   refine TL.v (Val.move rfl) ?_
   refine TL.pa ?_
   refine TL.pa ?_
   refine TL.pa ?_
   refine TL.pa ?_
   refine TL.v (Val.pick rfl rfl rfl) ?_
   refine TL.v (Val.move rfl) ?_
   refine TL.pa ?_
   refine TL.pa ?_
   refine TL.pa ?_
   refine TL.pa ?_
   refine TL.v (Val.pick rfl rfl rfl) ?_
   refine TL.v (Val.assign rfl) ?_
   refine TL.nt ?_
   refine TC.en (E' := [(2, _)]) ?_
   refine TC.r1 (M' := M) (fn := Tryz.f52) (fun _ _ h => h) rfl (RV.tmp rfl) ?_
   refine ⟨_, rfl, ?_, rfl⟩
   subst_vars
   simp only [mayM, inB] at *
   grind
  | true =>
   refine TL.dy (Does.callF go81 rfl (in_fn _ _ _ _)) ?_
   rintro _ _ ⟨rfl, rfl⟩
   refine TL.v (Val.pickAnd rfl rfl rfl) ?_
   refine TL.v (Val.move rfl) ?_
   refine TL.gen (fun g5 hg5 => ?_)
   refine TL.gv rfl rfl rfl (fun hg => by subst hg; exact (Val.fieldAddr rfl fl39_2 sz3 rfl)) ?_
   refine TL.gv rfl rfl rfl (fun hg => by subst hg; exact (Val.load 0 rfl ag3 rfl rfl)) ?_
   cases g5 with
   | false =>
    refine TL.pa ?_
    refine TL.v (Val.pick rfl rfl rfl) ?_
    refine TL.v (Val.move rfl) ?_
    refine TL.pa ?_
    refine TL.pa ?_
    refine TL.pa ?_
    refine TL.v (Val.pick rfl rfl rfl) ?_
    refine TL.v (Val.move rfl) ?_
    refine TL.pa ?_
    refine TL.pa ?_
    refine TL.pa ?_
    refine TL.v (Val.pick rfl rfl rfl) ?_
    refine TL.v (Val.move rfl) ?_
    refine TL.pa ?_
    refine TL.pa ?_
    refine TL.pa ?_
    refine TL.pa ?_
    refine TL.v (Val.pick rfl rfl rfl) ?_
    refine TL.v (Val.move rfl) ?_
    refine TL.pa ?_
    refine TL.pa ?_
    refine TL.pa ?_
    refine TL.pa ?_
    refine TL.v (Val.pick rfl rfl rfl) ?_
    refine TL.v (Val.assign rfl) ?_
    refine TL.nt ?_
    refine TC.en (E' := [(2, _)]) ?_
    refine TC.r1 (M' := M) (fn := Tryz.f52) (fun _ _ h => h) rfl (RV.tmp rfl) ?_
    refine ⟨_, rfl, ?_, rfl⟩
    subst_vars
    simp only [mayM, inB] at *
    grind
   | true =>
    refine TL.dy (Does.callF go81 rfl (in_fn _ _ _ _)) ?_
    rintro _ _ ⟨rfl, rfl⟩
    refine TL.v (Val.pickAnd rfl rfl rfl) ?_
    refine TL.v (Val.move rfl) ?_
    refine TL.gen (fun g7 hg7 => ?_)
    refine TL.gv rfl rfl rfl (fun hg => by subst hg; exact (Val.fieldAddr rfl fl39_3 sz2 rfl)) ?_
    refine TL.gv rfl rfl rfl (fun hg => by subst hg; exact (Val.load 0 rfl ag2 rfl rfl)) ?_
    cases g7 with
    | false =>
     refine TL.pa ?_
     refine TL.v (Val.pick rfl rfl rfl) ?_
     refine TL.v (Val.move rfl) ?_
     refine TL.pa ?_
     refine TL.pa ?_
     refine TL.pa ?_
     refine TL.v (Val.pick rfl rfl rfl) ?_
     refine TL.v (Val.move rfl) ?_
     refine TL.pa ?_
     refine TL.pa ?_
     refine TL.pa ?_
     refine TL.pa ?_
     refine TL.v (Val.pick rfl rfl rfl) ?_
     refine TL.v (Val.move rfl) ?_
     refine TL.pa ?_
     refine TL.pa ?_
     refine TL.pa ?_
     refine TL.pa ?_
     refine TL.v (Val.pick rfl rfl rfl) ?_
     refine TL.v (Val.assign rfl) ?_
     refine TL.nt ?_
     refine TC.en (E' := [(2, _)]) ?_
     refine TC.r1 (M' := M) (fn := Tryz.f52) (fun _ _ h => h) rfl (RV.tmp rfl) ?_
     refine ⟨_, rfl, ?_, rfl⟩
     subst_vars
     simp only [mayM, inB] at *
     grind
    | true =>
     refine TL.dy (Does.callF go81 rfl (in_fn _ _ _ _)) ?_
     rintro _ _ ⟨rfl, rfl⟩
     refine TL.v (Val.pickAnd rfl rfl rfl) ?_
     refine TL.v (Val.move rfl) ?_
     refine TL.gen (fun g9 hg9 => ?_)
     refine TL.gv rfl rfl rfl (fun hg => by subst hg; exact (Val.fieldAddr rfl fl39_4 sz2 rfl)) ?_
     refine TL.gv rfl rfl rfl (fun hg => by subst hg; exact (Val.load 0 rfl ag2 rfl rfl)) ?_
     cases g9 with
     | false =>
      refine TL.pa ?_
      refine TL.v (Val.pick rfl rfl rfl) ?_
      refine TL.v (Val.move rfl) ?_
      refine TL.pa ?_
      refine TL.pa ?_
      refine TL.pa ?_
      refine TL.pa ?_
      refine TL.v (Val.pick rfl rfl rfl) ?_
      refine TL.v (Val.move rfl) ?_
      refine TL.pa ?_
      refine TL.pa ?_
      refine TL.pa ?_
      refine TL.pa ?_
      refine TL.v (Val.pick rfl rfl rfl) ?_
      refine TL.v (Val.assign rfl) ?_
      refine TL.nt ?_
      refine TC.en (E' := [(2, _)]) ?_
      refine TC.r1 (M' := M) (fn := Tryz.f52) (fun _ _ h => h) rfl (RV.tmp rfl) ?_
      refine ⟨_, rfl, ?_, rfl⟩
      subst_vars
      simp only [mayM, inB] at *
      grind
     | true =>
      refine TL.dy (Does.callF go81 rfl (in_fn _ _ _ _)) ?_
      rintro _ _ ⟨rfl, rfl⟩
      refine TL.v (Val.pickAnd rfl rfl rfl) ?_
      refine TL.v (Val.move rfl) ?_
      refine TL.gen (fun g11 hg11 => ?_)
      refine TL.gv rfl rfl rfl (fun hg => by subst hg; exact (Val.fieldAddr rfl fl39_6 sz3 rfl)) ?_
      refine TL.gv rfl rfl rfl (fun hg => by subst hg; exact (Val.load 0 rfl ag3 rfl rfl)) ?_
      refine TL.gv rfl rfl rfl (fun hg => by subst hg; exact (Val.move rfl)) ?_
      cases g11 with
      | false =>
       refine TL.pa ?_
       refine TL.v (Val.pick rfl rfl rfl) ?_
       refine TL.v (Val.move rfl) ?_
       refine TL.pa ?_
       refine TL.pa ?_
       refine TL.pa ?_
       refine TL.pa ?_
       refine TL.v (Val.pick rfl rfl rfl) ?_
       refine TL.v (Val.assign rfl) ?_
       refine TL.nt ?_
       refine TC.en (E' := [(2, _)]) ?_
       refine TC.r1 (M' := M) (fn := Tryz.f52) (fun _ _ h => h) rfl (RV.tmp rfl) ?_
       refine ⟨_, rfl, ?_, rfl⟩
       subst_vars
       simp only [mayM, inB] at *
       grind
      | true =>
       refine TL.dy (Does.callF go81 rfl (in_fn _ _ _ _)) ?_
       rintro _ _ ⟨rfl, rfl⟩
       refine TL.v (Val.pickAnd rfl rfl rfl) ?_
       refine TL.v (Val.move rfl) ?_
       refine TL.gen (fun g13 hg13 => ?_)
       refine TL.gv rfl rfl rfl (fun hg => by subst hg; exact (Val.fieldAddr rfl fl39_5 sz2 rfl)) ?_
       refine TL.gv rfl rfl rfl (fun hg => by subst hg; exact (Val.load 0 rfl ag2 rfl rfl)) ?_
       refine TL.gv rfl rfl rfl (fun hg => by subst hg; exact (Val.move rfl)) ?_
       cases g13 with
       | false =>
        refine TL.pa ?_
        refine TL.v (Val.pick rfl rfl rfl) ?_
        refine TL.v (Val.assign rfl) ?_
        refine TL.nt ?_
        refine TC.en (E' := [(2, _)]) ?_
        refine TC.r1 (M' := M) (fn := Tryz.f52) (fun _ _ h => h) rfl (RV.tmp rfl) ?_
        refine ⟨_, rfl, ?_, rfl⟩
        subst_vars
        simp only [mayM, inB] at *
        grind
       | true =>
        refine TL.dy (Does.callF go81 rfl (in_fn _ _ _ _)) ?_
        rintro _ _ ⟨rfl, rfl⟩
        refine TL.v (Val.pickAnd rfl rfl rfl) ?_
        refine TL.v (Val.assign rfl) ?_
        refine TL.nt ?_
        refine TC.en (E' := [(2, _)]) ?_
        refine TC.r1 (M' := M) (fn := Tryz.f52) (fun _ _ h => h) rfl (RV.tmp rfl) ?_
        refine ⟨_, rfl, ?_, rfl⟩
        subst_vars
        simp only [mayM, inB] at *
        grind
 ·
  refine TC.skip ?_
  refine AtX.then ?_
  refine TC.sr ?_
  refine TL.v (Val.fieldAddr rfl fl39_0 sz3 rfl) ?_
  refine TL.v (Val.load 0 rfl ag3 rfl rfl) ?_
  refine TL.d (Does.callF go81 rfl (in_fn _ _ _ _)) ?_
  rintro _ _ ⟨rfl, rfl⟩
  refine TL.v (Val.move rfl) ?_
  refine TL.gen (fun g16 hg16 => ?_)
  refine TL.gv rfl rfl rfl (fun hg => by subst hg; exact (Val.fieldAddr rfl fl39_1 sz3 rfl)) ?_
  refine TL.gv rfl rfl rfl (fun hg => by subst hg; exact (Val.load 0 rfl ag3 rfl rfl)) ?_
  cases g16 with
  | false =>
   refine TL.pa ?_
   refine TL.v (Val.pick rfl rfl rfl) ?_
   refine TL.v (Val.move rfl) ?_
   refine TL.pa ?_
   refine TL.pa ?_
   refine TL.pa ?_
   refine TL.v (Val.pick rfl rfl rfl) ?_
   refine TL.v (Val.move rfl) ?_
   refine TL.pa ?_
   refine TL.pa ?_
   refine TL.pa ?_
   refine TL.v (Val.pick rfl rfl rfl) ?_
   refine TL.v (Val.move rfl) ?_
   refine TL.pa ?_
   refine TL.pa ?_
   refine TL.pa ?_
   refine TL.v (Val.pick rfl rfl rfl) ?_
   refine TL.v (Val.move rfl) ?_
   refine TL.pa ?_
   refine TL.pa ?_
   refine TL.pa ?_
   refine TL.pa ?_
   refine TL.v (Val.pick rfl rfl rfl) ?_
   refine TL.v (Val.move rfl) ?_
   refine TL.pa ?_
   refine TL.pa ?_
   refine TL.pa ?_
   refine TL.pa ?_
   refine TL.v (Val.pick rfl rfl rfl) ?_
   refine TL.v (Val.assign rfl) ?_
   refine TL.nt ?_
   refine TC.en (E' := [(2, _)]) ?_
   refine TC.r1 (M' := M) (fn := Tryz.f52) (fun _ _ h => h) rfl (RV.tmp rfl) ?_
   refine ⟨_, rfl, ?_, rfl⟩
   subst_vars
   simp only [mayM, inB] at *
   grind
  | true =>
   refine TL.dy (Does.callF go81 rfl (in_fn _ _ _ _)) ?_
   rintro _ _ ⟨rfl, rfl⟩
   refine TL.v (Val.pickAnd rfl rfl rfl) ?_
   refine TL.v (Val.move rfl) ?_
   refine TL.gen (fun g18 hg18 => ?_)
   refine TL.gv rfl rfl rfl (fun hg => by subst hg; exact (Val.fieldAddr rfl fl39_2 sz3 rfl)) ?_
   refine TL.gv rfl rfl rfl (fun hg => by subst hg; exact (Val.load 0 rfl ag3 rfl rfl)) ?_
   cases g18 with
   | false =>
    refine TL.pa ?_
    refine TL.v (Val.pick rfl rfl rfl) ?_
    refine TL.v (Val.move rfl) ?_
    refine TL.pa ?_
    refine TL.pa ?_
    refine TL.pa ?_
    refine TL.v (Val.pick rfl rfl rfl) ?_
    refine TL.v (Val.move rfl) ?_
    refine TL.pa ?_
    refine TL.pa ?_
    refine TL.pa ?_
    refine TL.v (Val.pick rfl rfl rfl) ?_
    refine TL.v (Val.move rfl) ?_
    refine TL.pa ?_
    refine TL.pa ?_
    refine TL.pa ?_
    refine TL.pa ?_
    refine TL.v (Val.pick rfl rfl rfl) ?_
    refine TL.v (Val.move rfl) ?_
    refine TL.pa ?_
    refine TL.pa ?_
    refine TL.pa ?_
    refine TL.pa ?_
    refine TL.v (Val.pick rfl rfl rfl) ?_
    refine TL.v (Val.assign rfl) ?_
    refine TL.nt ?_
    refine TC.en (E' := [(2, _)]) ?_
    refine TC.r1 (M' := M) (fn := Tryz.f52) (fun _ _ h => h) rfl (RV.tmp rfl) ?_
    refine ⟨_, rfl, ?_, rfl⟩
    subst_vars
    simp only [mayM, inB] at *
    grind
   | true =>
    refine TL.dy (Does.callF go81 rfl (in_fn _ _ _ _)) ?_
    rintro _ _ ⟨rfl, rfl⟩
    refine TL.v (Val.pickAnd rfl rfl rfl) ?_
    refine TL.v (Val.move rfl) ?_
    refine TL.gen (fun g20 hg20 => ?_)
    refine TL.gv rfl rfl rfl (fun hg => by subst hg; exact (Val.fieldAddr rfl fl39_3 sz2 rfl)) ?_
    refine TL.gv rfl rfl rfl (fun hg => by subst hg; exact (Val.load 0 rfl ag2 rfl rfl)) ?_
    cases g20 with
    | false =>
     refine TL.pa ?_
     refine TL.v (Val.pick rfl rfl rfl) ?_
     refine TL.v (Val.move rfl) ?_
     refine TL.pa ?_
     refine TL.pa ?_
     refine TL.pa ?_
     refine TL.v (Val.pick rfl rfl rfl) ?_
     refine TL.v (Val.move rfl) ?_
     refine TL.pa ?_
     refine TL.pa ?_
     refine TL.pa ?_
     refine TL.pa ?_
     refine TL.v (Val.pick rfl rfl rfl) ?_
     refine TL.v (Val.move rfl) ?_
     refine TL.pa ?_
     refine TL.pa ?_
     refine TL.pa ?_
     refine TL.pa ?_
     refine TL.v (Val.pick rfl rfl rfl) ?_
     refine TL.v (Val.assign rfl) ?_
     refine TL.nt ?_
     refine TC.en (E' := [(2, _)]) ?_
     refine TC.r1 (M' := M) (fn := Tryz.f52) (fun _ _ h => h) rfl (RV.tmp rfl) ?_
     refine ⟨_, rfl, ?_, rfl⟩
     subst_vars
     simp only [mayM, inB] at *
     grind
    | true =>
     refine TL.dy (Does.callF go81 rfl (in_fn _ _ _ _)) ?_
     rintro _ _ ⟨rfl, rfl⟩
     refine TL.v (Val.pickAnd rfl rfl rfl) ?_
     refine TL.v (Val.move rfl) ?_
     refine TL.gen (fun g22 hg22 => ?_)
     refine TL.gv rfl rfl rfl (fun hg => by subst hg; exact (Val.fieldAddr rfl fl39_4 sz2 rfl)) ?_
     refine TL.gv rfl rfl rfl (fun hg => by subst hg; exact (Val.load 0 rfl ag2 rfl rfl)) ?_
     cases g22 with
     | false =>
      refine TL.pa ?_
      refine TL.v (Val.pick rfl rfl rfl) ?_
      refine TL.v (Val.move rfl) ?_
      refine TL.pa ?_
      refine TL.pa ?_
      refine TL.pa ?_
      refine TL.pa ?_
      refine TL.v (Val.pick rfl rfl rfl) ?_
      refine TL.v (Val.move rfl) ?_
      refine TL.pa ?_
      refine TL.pa ?_
      refine TL.pa ?_
      refine TL.pa ?_
      refine TL.v (Val.pick rfl rfl rfl) ?_
      refine TL.v (Val.assign rfl) ?_
      refine TL.nt ?_
      refine TC.en (E' := [(2, _)]) ?_
      refine TC.r1 (M' := M) (fn := Tryz.f52) (fun _ _ h => h) rfl (RV.tmp rfl) ?_
      refine ⟨_, rfl, ?_, rfl⟩
      subst_vars
      simp only [mayM, inB] at *
      grind
     | true =>
      refine TL.dy (Does.callF go81 rfl (in_fn _ _ _ _)) ?_
      rintro _ _ ⟨rfl, rfl⟩
      refine TL.v (Val.pickAnd rfl rfl rfl) ?_
      refine TL.v (Val.move rfl) ?_
      refine TL.gen (fun g24 hg24 => ?_)
      refine TL.gv rfl rfl rfl (fun hg => by subst hg; exact (Val.fieldAddr rfl fl39_6 sz3 rfl)) ?_
      refine TL.gv rfl rfl rfl (fun hg => by subst hg; exact (Val.load 0 rfl ag3 rfl rfl)) ?_
      refine TL.gv rfl rfl rfl (fun hg => by subst hg; exact (Val.move rfl)) ?_
      cases g24 with
      | false =>
       refine TL.pa ?_
       refine TL.v (Val.pick rfl rfl rfl) ?_
       refine TL.v (Val.move rfl) ?_
       refine TL.pa ?_
       refine TL.pa ?_
       refine TL.pa ?_
       refine TL.pa ?_
       refine TL.v (Val.pick rfl rfl rfl) ?_
       refine TL.v (Val.assign rfl) ?_
       refine TL.nt ?_
       refine TC.en (E' := [(2, _)]) ?_
       refine TC.r1 (M' := M) (fn := Tryz.f52) (fun _ _ h => h) rfl (RV.tmp rfl) ?_
       refine ⟨_, rfl, ?_, rfl⟩
       subst_vars
       simp only [mayM, inB] at *
       grind
      | true =>
       refine TL.dy (Does.callF go81 rfl (in_fn _ _ _ _)) ?_
       rintro _ _ ⟨rfl, rfl⟩
       refine TL.v (Val.pickAnd rfl rfl rfl) ?_
       refine TL.v (Val.move rfl) ?_
       refine TL.gen (fun g26 hg26 => ?_)
       refine TL.gv rfl rfl rfl (fun hg => by subst hg; exact (Val.fieldAddr rfl fl39_5 sz2 rfl)) ?_
       refine TL.gv rfl rfl rfl (fun hg => by subst hg; exact (Val.load 0 rfl ag2 rfl rfl)) ?_
       refine TL.gv rfl rfl rfl (fun hg => by subst hg; exact (Val.move rfl)) ?_
       cases g26 with
       | false =>
        refine TL.pa ?_
        refine TL.v (Val.pick rfl rfl rfl) ?_
        refine TL.v (Val.assign rfl) ?_
        refine TL.nt ?_
        refine TC.en (E' := [(2, _)]) ?_
        refine TC.r1 (M' := M) (fn := Tryz.f52) (fun _ _ h => h) rfl (RV.tmp rfl) ?_
        refine ⟨_, rfl, ?_, rfl⟩
        subst_vars
        simp only [mayM, inB] at *
        grind
       | true =>
        refine TL.dy (Does.callF go81 rfl (in_fn _ _ _ _)) ?_
        rintro _ _ ⟨rfl, rfl⟩
        refine TL.v (Val.pickAnd rfl rfl rfl) ?_
        refine TL.v (Val.assign rfl) ?_
        refine TL.nt ?_
        refine TC.en (E' := [(2, _)]) ?_
        refine TC.r1 (M' := M) (fn := Tryz.f52) (fun _ _ h => h) rfl (RV.tmp rfl) ?_
        refine ⟨_, rfl, ?_, rfl⟩
        subst_vars
        simp only [mayM, inB] at *
        grind

/-- quorumite/wire.Put -/
theorem wPut_no (m : Ms) (M : Hp) (hm : mayM m = false) : FnC Tryz.prog 89 #[.agg #[.int .i64 m.kind, .int .i64 m.who, .int .i64 m.gen, .int .i64 m.seq, .int .i64 m.epoch, .int .i64 m.value, .int .i64 m.metric]] M (fun v M' => v = .tuple #[.slice none 0 0, .int .i64 1] ∧ M = M') := by
 refine FnC.intro Tryz.func89 rfl 45 rfl (by simp) (fun z => ?_)
 refine TC.en (E' := [(0, _)]) ?_
 refine TC.sr ?_
 refine TL.d (Does.box rfl rfl) ?_
 rintro _ _ ⟨b1, rfl, rfl⟩
 refine TL.v (Val.assign rfl) ?_
 refine TL.v (Val.assign rfl) ?_
 refine TL.nt ?_
 refine TC.seq ?_
 refine TC.sr ?_
 refine TL.v (Val.loadAgg 0 rfl ag39 sz39 rfl rfl rfl) ?_
 refine TL.d (Does.callF go52 rfl (May_fn m _)) ?_
 rintro _ _ ⟨g1, rfl, hg1_, rfl⟩
 refine TL.v (Val.not rfl) ?_
 refine TL.nt ?_
 refine TC.condB rfl (fun c1 => ?_) (fun c1 => ?_)
 ·
  refine TC.sr ?_
  refine TL.v (Val.assign rfl) ?_
  refine TL.v (Val.assign rfl) ?_
  refine TL.nt ?_
  refine TC.r2 (M' := M) (fn := Tryz.f89) (fun _ _ h => h) rfl (RV.tmp rfl) (RV.tmp rfl) ?_
  exact ⟨rfl, rfl⟩
 ·
  (rw [hg1_, hm] at c1; cases c1)

/-- quorumite/wire.Get -/
theorem wGet_no1 (l : List UInt8) (A : Option Addr) (n c : Nat) (M : Hp) (hA : RdS M A (bv l)) (hn : n = 32) (hl : l.length = 32) (hm : mayM (decM l) = false) : FnC Tryz.prog 68 #[.slice A n c] M (fun v M' => v = .tuple #[.agg #[.int .i64 0, .int .i64 0, .int .i64 0, .int .i64 0, .int .i64 0, .int .i64 0, .int .i64 0], .int .i64 2] ∧ M = M') := by
 subst hn
 obtain ⟨bA, oA, rfl, hR⟩ := RdS.get hA (by simp; omega)
 obtain ⟨m, hme⟩ : ∃ m, m = decM l := ⟨_, rfl⟩
 rw [← hme] at hm
 refine FnC.intro Tryz.func68 rfl 51 rfl (by simp) (fun z => ?_)
 refine TC.en (E' := [(0, _)]) ?_
 refine TC.sr ?_
 refine TL.d (Does.box rfl rfl) ?_
 rintro _ _ ⟨b1, rfl, rfl⟩
 refine TL.d (Does.alloc ze39 rfl) ?_
 rintro _ _ ⟨b2, rfl, rfl⟩
 refine TL.v (Val.assign rfl) ?_
 refine TL.nt ?_
 refine TC.seq ?_
 refine TC.sr ?_
 refine TL.v (Val.load 1 rfl ag34 rfl rfl) ?_
 refine TL.v (Val.lenSl rfl rfl sl34) ?_
 refine TL.v (Val.neqI rfl rfl) ?_
 refine TL.nt ?_
 refine TC.condP rfl (fun c1 => ?_) (fun c1 => ?_)
 ·
  exact absurd rfl c1
 ·
  refine TC.skip ?_
  refine AtX.then ?_
  refine TC.sr ?_
  refine TL.v (Val.makeFunc rfl rfl) ?_
  refine TL.v (Val.assign rfl) ?_
  refine TL.nt ?_
  refine TC.join (ι := Nat) (fun x => [(1, .pointer (some ⟨b1, 0, none⟩)), (2, .pointer (some ⟨b2, 0, none⟩)), (3, .int .i64 0), (5, .pointer (some ⟨x, 0, none⟩))]) (fun x => (x, .cells #[.int .i64 m.kind, .int .i64 m.who, .int .i64 m.gen, .int .i64 m.seq, .int .i64 m.epoch, .int .i64 m.value, .int .i64 m.metric] 39 (0, 0)) :: (b2, .cells #[.int .i64 0, .int .i64 0, .int .i64 0, .int .i64 0, .int .i64 0, .int .i64 0, .int .i64 0] 39 (0, 0)) :: (b1, .cells #[.slice (some ⟨bA, oA, none⟩) 32 c] 34 (0, 0)) :: M) (fun _ => True) ?_ ?_
  ·
   refine TC.drawL ((b1, .cells #[.slice (some ⟨bA, oA, none⟩) 32 c] 34 (0, 0)) :: M) mixed 25 ?_
   refine TA.tk 0 1 rfl rfl rfl (Val.load 0 rfl ag34 rfl rfl) ?_
   refine TA.tk 1 3 rfl rfl rfl (Val.indexAddr (i := 1) (r := oA + 1) rfl rfl sl34 sz5 rfl (by omega) (by omega)) ?_
   refine TA.tk 2 7 rfl rfl rfl (Val.loadB 1 rfl ag5 (hR.cons _) rfl (by omega)) ?_
   refine TA.tk 3 15 rfl rfl rfl (Val.convI rfl iu5 in3 (r := m.kind) (by rw [hme]; exact wb _)) ?_
   refine TA.tk 4 31 rfl rfl rfl (Val.load 0 rfl ag34 rfl rfl) ?_
   refine TA.tk 5 63 rfl rfl rfl (Val.indexAddr (i := 2) (r := oA + 2) rfl rfl sl34 sz5 rfl (by omega) (by omega)) ?_
   refine TA.tk 6 127 rfl rfl rfl (Val.loadB 2 rfl ag5 (hR.cons _) rfl (by omega)) ?_
   refine TA.tk 7 255 rfl rfl rfl (Val.convI rfl iu5 in3 (r := m.who) (by rw [hme]; exact wb _)) ?_
   refine TA.tk 8 511 rfl rfl rfl (Val.load 0 rfl ag34 rfl rfl) ?_
   refine TA.tk 9 1023 rfl rfl rfl (Val.indexAddr (i := 3) (r := oA + 3) rfl rfl sl34 sz5 rfl (by omega) (by omega)) ?_
   refine TA.tk 10 2047 rfl rfl rfl (Val.loadB 3 rfl ag5 (hR.cons _) rfl (by omega)) ?_
   refine TA.tk 11 4095 rfl rfl rfl (Val.convI rfl iu5 in3 (r := m.metric) (by rw [hme]; exact wb _)) ?_
   refine TA.tk 12 8191 rfl rfl rfl (Val.move rfl) ?_
   refine TA.tk 16 73727 rfl rfl rfl (Val.move rfl) ?_
   refine TA.tk 18 335871 rfl rfl rfl (Val.move rfl) ?_
   refine TA.tk 20 1384447 rfl rfl rfl (Val.move rfl) ?_
   refine TA.two 13 23 (by kernel_rfl) ?_ ?_
   ·
    refine TO.dz 1392639 (some 26) rfl rfl rfl rfl (Does.callC (cap := [.pointer (some ⟨b1, 0, none⟩)]) rfl go93 rfl (clo105_fn l (some ⟨bA, oA, none⟩) 32 c 4 b1 1 _ rfl ((hA.cons _).cons _) hl.symm (by omega) (by omega))) ?_
    rintro _ _ ⟨rfl, rfl⟩
    refine roK ?_
    refine TA.tk 14 1409023 rfl rfl rfl (Val.convI rfl iu2 in161 rfl) ?_
    refine TA.tk 15 1441791 rfl rfl rfl (Val.convI rfl iu161 in3 (r := m.gen) (by rw [hme]; exact wu32 _)) ?_
    refine TA.two 17 23 (by kernel_rfl) ?_ ?_
    ·
     refine TO.dz 1572863 (some 30) rfl rfl rfl rfl (Does.callC (cap := [.pointer (some ⟨b1, 0, none⟩)]) rfl go93 rfl (clo105_fn l (some ⟨bA, oA, none⟩) 32 c 8 b1 1 _ rfl ((hA.cons _).cons _) hl.symm (by omega) (by omega))) ?_
     rintro _ _ ⟨rfl, rfl⟩
     rw [show IntKind.i64.wrap ((get8 l 8 : Nat) : Int) = m.seq from by rw [hme]; rfl]
     refine roK ?_
     refine TA.two 19 23 (by kernel_rfl) ?_ ?_
     ·
      refine TO.dz 2097151 (some 32) rfl rfl rfl rfl (Does.callC (cap := [.pointer (some ⟨b1, 0, none⟩)]) rfl go93 rfl (clo105_fn l (some ⟨bA, oA, none⟩) 32 c 16 b1 1 _ rfl ((hA.cons _).cons _) hl.symm (by omega) (by omega))) ?_
      rintro _ _ ⟨rfl, rfl⟩
      rw [show IntKind.i64.wrap ((get8 l 16 : Nat) : Int) = m.epoch from by rw [hme]; rfl]
      refine roK ?_
      refine TA.two 21 23 (by kernel_rfl) ?_ ?_
      ·
       refine TO.dz 4194303 (some 34) rfl rfl rfl rfl (Does.callC (cap := [.pointer (some ⟨b1, 0, none⟩)]) rfl go93 rfl (clo105_fn l (some ⟨bA, oA, none⟩) 32 c 24 b1 1 _ rfl ((hA.cons _).cons _) hl.symm (by omega) (by omega))) ?_
       rintro _ _ ⟨rfl, rfl⟩
       rw [show IntKind.i64.wrap ((get8 l 24 : Nat) : Int) = m.value from by rw [hme]; rfl]
       refine roK ?_
       refine TA.tk 22 8388607 rfl rfl rfl (Val.buildS pl39 ze39 rfl rfl) ?_
       refine TA.one 23 (by kernel_rfl) ?_
       refine TO.dz 16777215 (some 5) rfl rfl rfl rfl (Does.alloc ze39 rfl) ?_
       rintro _ _ ⟨bm, rfl, rfl⟩
       refine roK ?_
       refine TA.one 24 (by kernel_rfl) ?_
       refine TO.dz 33554431 none rfl rfl rfl rfl (Does.store (i := 0) rfl rfl rfl sz39 rfl rfl (by first | exact Nat.le_of_ble_eq_true rfl | decide | omega) rfl rfl) ?_
       rintro _ _ ⟨rfl, rfl⟩
       refine roK ?_
       refine TA.done (by kernel_rfl) ?_
       refine AtX.join bm ?_ (Sub.cons rfl (Sub.cons rfl (Sub.cons rfl (Sub.cons rfl (Sub.nil _))))) (fun w h => h)
       trivial
      ·
       refine TO.dz 10485759 (some 5) rfl rfl rfl rfl (Does.alloc ze39 rfl) ?_
       rintro _ _ ⟨bm, rfl, rfl⟩
       refine roK ?_
       refine TA.one 21 (by kernel_rfl) ?_
       refine TO.dz 12582911 (some 34) rfl rfl rfl rfl (Does.callC (cap := [.pointer (some ⟨b1, 0, none⟩)]) rfl go93 rfl (clo105_fn l (some ⟨bA, oA, none⟩) 32 c 24 b1 2 _ rfl (((hA.cons _).cons _).cons _) hl.symm (by omega) (by omega))) ?_
       rintro _ _ ⟨rfl, rfl⟩
       rw [show IntKind.i64.wrap ((get8 l 24 : Nat) : Int) = m.value from by rw [hme]; rfl]
       refine roK ?_
       refine TA.tk 22 16777215 rfl rfl rfl (Val.buildS pl39 ze39 rfl rfl) ?_
       refine TA.one 24 (by kernel_rfl) ?_
       refine TO.dz 33554431 none rfl rfl rfl rfl (Does.store (i := 0) rfl rfl rfl sz39 rfl rfl (by first | exact Nat.le_of_ble_eq_true rfl | decide | omega) rfl rfl) ?_
       rintro _ _ ⟨rfl, rfl⟩
       refine roK ?_
       refine TA.done (by kernel_rfl) ?_
       refine AtX.join bm ?_ (Sub.cons rfl (Sub.cons rfl (Sub.cons rfl (Sub.cons rfl (Sub.nil _))))) (fun w h => h)
       trivial
     ·
      refine TO.dz 9961471 (some 5) rfl rfl rfl rfl (Does.alloc ze39 rfl) ?_
      rintro _ _ ⟨bm, rfl, rfl⟩
      refine roK ?_
      refine TA.one 19 (by kernel_rfl) ?_
      refine TO.dz 10485759 (some 32) rfl rfl rfl rfl (Does.callC (cap := [.pointer (some ⟨b1, 0, none⟩)]) rfl go93 rfl (clo105_fn l (some ⟨bA, oA, none⟩) 32 c 16 b1 2 _ rfl (((hA.cons _).cons _).cons _) hl.symm (by omega) (by omega))) ?_
      rintro _ _ ⟨rfl, rfl⟩
      rw [show IntKind.i64.wrap ((get8 l 16 : Nat) : Int) = m.epoch from by rw [hme]; rfl]
      refine roK ?_
      refine TA.one 21 (by kernel_rfl) ?_
      refine TO.dz 12582911 (some 34) rfl rfl rfl rfl (Does.callC (cap := [.pointer (some ⟨b1, 0, none⟩)]) rfl go93 rfl (clo105_fn l (some ⟨bA, oA, none⟩) 32 c 24 b1 2 _ rfl (((hA.cons _).cons _).cons _) hl.symm (by omega) (by omega))) ?_
      rintro _ _ ⟨rfl, rfl⟩
      rw [show IntKind.i64.wrap ((get8 l 24 : Nat) : Int) = m.value from by rw [hme]; rfl]
      refine roK ?_
      refine TA.tk 22 16777215 rfl rfl rfl (Val.buildS pl39 ze39 rfl rfl) ?_
      refine TA.one 24 (by kernel_rfl) ?_
      refine TO.dz 33554431 none rfl rfl rfl rfl (Does.store (i := 0) rfl rfl rfl sz39 rfl rfl (by first | exact Nat.le_of_ble_eq_true rfl | decide | omega) rfl rfl) ?_
      rintro _ _ ⟨rfl, rfl⟩
      refine roK ?_
      refine TA.done (by kernel_rfl) ?_
      refine AtX.join bm ?_ (Sub.cons rfl (Sub.cons rfl (Sub.cons rfl (Sub.cons rfl (Sub.nil _))))) (fun w h => h)
      trivial
    ·
     refine TO.dz 9830399 (some 5) rfl rfl rfl rfl (Does.alloc ze39 rfl) ?_
     rintro _ _ ⟨bm, rfl, rfl⟩
     refine roK ?_
     refine TA.one 17 (by kernel_rfl) ?_
     refine TO.dz 9961471 (some 30) rfl rfl rfl rfl (Does.callC (cap := [.pointer (some ⟨b1, 0, none⟩)]) rfl go93 rfl (clo105_fn l (some ⟨bA, oA, none⟩) 32 c 8 b1 2 _ rfl (((hA.cons _).cons _).cons _) hl.symm (by omega) (by omega))) ?_
     rintro _ _ ⟨rfl, rfl⟩
     rw [show IntKind.i64.wrap ((get8 l 8 : Nat) : Int) = m.seq from by rw [hme]; rfl]
     refine roK ?_
     refine TA.one 19 (by kernel_rfl) ?_
     refine TO.dz 10485759 (some 32) rfl rfl rfl rfl (Does.callC (cap := [.pointer (some ⟨b1, 0, none⟩)]) rfl go93 rfl (clo105_fn l (some ⟨bA, oA, none⟩) 32 c 16 b1 2 _ rfl (((hA.cons _).cons _).cons _) hl.symm (by omega) (by omega))) ?_
     rintro _ _ ⟨rfl, rfl⟩
     rw [show IntKind.i64.wrap ((get8 l 16 : Nat) : Int) = m.epoch from by rw [hme]; rfl]
     refine roK ?_
     refine TA.one 21 (by kernel_rfl) ?_
     refine TO.dz 12582911 (some 34) rfl rfl rfl rfl (Does.callC (cap := [.pointer (some ⟨b1, 0, none⟩)]) rfl go93 rfl (clo105_fn l (some ⟨bA, oA, none⟩) 32 c 24 b1 2 _ rfl (((hA.cons _).cons _).cons _) hl.symm (by omega) (by omega))) ?_
     rintro _ _ ⟨rfl, rfl⟩
     rw [show IntKind.i64.wrap ((get8 l 24 : Nat) : Int) = m.value from by rw [hme]; rfl]
     refine roK ?_
     refine TA.tk 22 16777215 rfl rfl rfl (Val.buildS pl39 ze39 rfl rfl) ?_
     refine TA.one 24 (by kernel_rfl) ?_
     refine TO.dz 33554431 none rfl rfl rfl rfl (Does.store (i := 0) rfl rfl rfl sz39 rfl rfl (by first | exact Nat.le_of_ble_eq_true rfl | decide | omega) rfl rfl) ?_
     rintro _ _ ⟨rfl, rfl⟩
     refine roK ?_
     refine TA.done (by kernel_rfl) ?_
     refine AtX.join bm ?_ (Sub.cons rfl (Sub.cons rfl (Sub.cons rfl (Sub.cons rfl (Sub.nil _))))) (fun w h => h)
     trivial
   ·
    refine TO.dz 9773055 (some 5) rfl rfl rfl rfl (Does.alloc ze39 rfl) ?_
    rintro _ _ ⟨bm, rfl, rfl⟩
    refine roK ?_
    refine TA.one 13 (by kernel_rfl) ?_
    refine TO.dz 9781247 (some 26) rfl rfl rfl rfl (Does.callC (cap := [.pointer (some ⟨b1, 0, none⟩)]) rfl go93 rfl (clo105_fn l (some ⟨bA, oA, none⟩) 32 c 4 b1 2 _ rfl (((hA.cons _).cons _).cons _) hl.symm (by omega) (by omega))) ?_
    rintro _ _ ⟨rfl, rfl⟩
    refine roK ?_
    refine TA.tk 14 9797631 rfl rfl rfl (Val.convI rfl iu2 in161 rfl) ?_
    refine TA.tk 15 9830399 rfl rfl rfl (Val.convI rfl iu161 in3 (r := m.gen) (by rw [hme]; exact wu32 _)) ?_
    refine TA.one 17 (by kernel_rfl) ?_
    refine TO.dz 9961471 (some 30) rfl rfl rfl rfl (Does.callC (cap := [.pointer (some ⟨b1, 0, none⟩)]) rfl go93 rfl (clo105_fn l (some ⟨bA, oA, none⟩) 32 c 8 b1 2 _ rfl (((hA.cons _).cons _).cons _) hl.symm (by omega) (by omega))) ?_
    rintro _ _ ⟨rfl, rfl⟩
    rw [show IntKind.i64.wrap ((get8 l 8 : Nat) : Int) = m.seq from by rw [hme]; rfl]
    refine roK ?_
    refine TA.one 19 (by kernel_rfl) ?_
    refine TO.dz 10485759 (some 32) rfl rfl rfl rfl (Does.callC (cap := [.pointer (some ⟨b1, 0, none⟩)]) rfl go93 rfl (clo105_fn l (some ⟨bA, oA, none⟩) 32 c 16 b1 2 _ rfl (((hA.cons _).cons _).cons _) hl.symm (by omega) (by omega))) ?_
    rintro _ _ ⟨rfl, rfl⟩
    rw [show IntKind.i64.wrap ((get8 l 16 : Nat) : Int) = m.epoch from by rw [hme]; rfl]
    refine roK ?_
    refine TA.one 21 (by kernel_rfl) ?_
    refine TO.dz 12582911 (some 34) rfl rfl rfl rfl (Does.callC (cap := [.pointer (some ⟨b1, 0, none⟩)]) rfl go93 rfl (clo105_fn l (some ⟨bA, oA, none⟩) 32 c 24 b1 2 _ rfl (((hA.cons _).cons _).cons _) hl.symm (by omega) (by omega))) ?_
    rintro _ _ ⟨rfl, rfl⟩
    rw [show IntKind.i64.wrap ((get8 l 24 : Nat) : Int) = m.value from by rw [hme]; rfl]
    refine roK ?_
    refine TA.tk 22 16777215 rfl rfl rfl (Val.buildS pl39 ze39 rfl rfl) ?_
    refine TA.one 24 (by kernel_rfl) ?_
    refine TO.dz 33554431 none rfl rfl rfl rfl (Does.store (i := 0) rfl rfl rfl sz39 rfl rfl (by first | exact Nat.le_of_ble_eq_true rfl | decide | omega) rfl rfl) ?_
    rintro _ _ ⟨rfl, rfl⟩
    refine roK ?_
    refine TA.done (by kernel_rfl) ?_
    refine AtX.join bm ?_ (Sub.cons rfl (Sub.cons rfl (Sub.cons rfl (Sub.cons rfl (Sub.nil _))))) (fun w h => h)
    trivial
  ·
   intro bm _
   refine TC.seq ?_
   refine TC.sr ?_
   refine TL.v (Val.loadAgg 0 rfl ag39 sz39 rfl rfl rfl) ?_
   refine TL.d (Does.callF go89 rfl (wPut_no m _ hm)) ?_
   rintro _ _ ⟨rfl, rfl⟩
   refine TL.v (Val.move rfl) ?_
   refine TL.v (Val.extract rfl rfl) ?_
   refine TL.v (Val.extract rfl rfl) ?_
   refine TL.v (Val.assign rfl) ?_
   refine TL.v (Val.assign rfl) ?_
   refine TL.nt ?_
   refine TC.sr ?_
   refine TL.v (Val.move rfl) ?_
   refine TL.v (Val.neqI rfl rfl) ?_
   refine TL.v (Val.move rfl) ?_
   refine TL.pa ?_
   refine TL.pa ?_
   refine TL.pa ?_
   refine TL.pa ?_
   refine TL.v (Val.pick rfl rfl rfl) ?_
   refine TL.nt ?_
   refine TC.en (E' := [(2, _), (3, _), (5, _), (48, _)]) ?_
   refine TC.cond rfl (fun c2 => ?_) (fun c2 => ?_)
   ·
    refine TC.sr ?_
    refine TL.v (Val.buildS pl39 ze39 rfl rfl) ?_
    refine TL.d (Does.store (i := 1) rfl rfl rfl sz39 rfl rfl (by first | exact Nat.le_of_ble_eq_true rfl | decide | omega) rfl rfl) ?_
    rintro _ _ ⟨rfl, rfl⟩
    refine TL.v (Val.assign rfl) ?_
    refine TL.nt ?_
    refine TC.r2 (M' := M) (fn := Tryz.f68) (fun _ _ h => h) rfl (RV.agg (i := 1) rfl ag39 sz39 rfl rfl rfl) (RV.tmp rfl) ?_
    exact ⟨rfl, rfl⟩
   ·
    first | exact absurd rfl c2 | (exfalso; simp at c2) | exact absurd c2 (by decide)

/-- quorumite/wire.Get -/
theorem wGet_no2 (l : List UInt8) (A : Option Addr) (n c : Nat) (M : Hp) (hA : RdS M A (bv l)) (hn : n = 32) (hl : l.length = 32) (hm : mayM (decM l) = true) (hne : putM (decM l) ≠ l) : FnC Tryz.prog 68 #[.slice A n c] M (fun v M' => v = .tuple #[.agg #[.int .i64 0, .int .i64 0, .int .i64 0, .int .i64 0, .int .i64 0, .int .i64 0, .int .i64 0], .int .i64 2] ∧ M = M') := by
 subst hn
 obtain ⟨bA, oA, rfl, hR⟩ := RdS.get hA (by simp; omega)
 obtain ⟨m, hme⟩ : ∃ m, m = decM l := ⟨_, rfl⟩
 rw [← hme] at hm
 rw [← hme] at hne
 refine FnC.intro Tryz.func68 rfl 51 rfl (by simp) (fun z => ?_)
 refine TC.en (E' := [(0, _)]) ?_
 refine TC.sr ?_
 refine TL.d (Does.box rfl rfl) ?_
 rintro _ _ ⟨b1, rfl, rfl⟩
 refine TL.d (Does.alloc ze39 rfl) ?_
 rintro _ _ ⟨b2, rfl, rfl⟩
 refine TL.v (Val.assign rfl) ?_
 refine TL.nt ?_
 refine TC.seq ?_
 refine TC.sr ?_
 refine TL.v (Val.load 1 rfl ag34 rfl rfl) ?_
 refine TL.v (Val.lenSl rfl rfl sl34) ?_
 refine TL.v (Val.neqI rfl rfl) ?_
 refine TL.nt ?_
 refine TC.condP rfl (fun c1 => ?_) (fun c1 => ?_)
 ·
  exact absurd rfl c1
 ·
  refine TC.skip ?_
  refine AtX.then ?_
  refine TC.sr ?_
  refine TL.v (Val.makeFunc rfl rfl) ?_
  refine TL.v (Val.assign rfl) ?_
  refine TL.nt ?_
  refine TC.join (ι := Nat) (fun x => [(1, .pointer (some ⟨b1, 0, none⟩)), (2, .pointer (some ⟨b2, 0, none⟩)), (3, .int .i64 0), (5, .pointer (some ⟨x, 0, none⟩))]) (fun x => (x, .cells #[.int .i64 m.kind, .int .i64 m.who, .int .i64 m.gen, .int .i64 m.seq, .int .i64 m.epoch, .int .i64 m.value, .int .i64 m.metric] 39 (0, 0)) :: (b2, .cells #[.int .i64 0, .int .i64 0, .int .i64 0, .int .i64 0, .int .i64 0, .int .i64 0, .int .i64 0] 39 (0, 0)) :: (b1, .cells #[.slice (some ⟨bA, oA, none⟩) 32 c] 34 (0, 0)) :: M) (fun _ => True) ?_ ?_
  ·
   refine TC.drawL ((b1, .cells #[.slice (some ⟨bA, oA, none⟩) 32 c] 34 (0, 0)) :: M) mixed 25 ?_
   refine TA.tk 0 1 rfl rfl rfl (Val.load 0 rfl ag34 rfl rfl) ?_
   refine TA.tk 1 3 rfl rfl rfl (Val.indexAddr (i := 1) (r := oA + 1) rfl rfl sl34 sz5 rfl (by omega) (by omega)) ?_
   refine TA.tk 2 7 rfl rfl rfl (Val.loadB 1 rfl ag5 (hR.cons _) rfl (by omega)) ?_
   refine TA.tk 3 15 rfl rfl rfl (Val.convI rfl iu5 in3 (r := m.kind) (by rw [hme]; exact wb _)) ?_
   refine TA.tk 4 31 rfl rfl rfl (Val.load 0 rfl ag34 rfl rfl) ?_
   refine TA.tk 5 63 rfl rfl rfl (Val.indexAddr (i := 2) (r := oA + 2) rfl rfl sl34 sz5 rfl (by omega) (by omega)) ?_
   refine TA.tk 6 127 rfl rfl rfl (Val.loadB 2 rfl ag5 (hR.cons _) rfl (by omega)) ?_
   refine TA.tk 7 255 rfl rfl rfl (Val.convI rfl iu5 in3 (r := m.who) (by rw [hme]; exact wb _)) ?_
   refine TA.tk 8 511 rfl rfl rfl (Val.load 0 rfl ag34 rfl rfl) ?_
   refine TA.tk 9 1023 rfl rfl rfl (Val.indexAddr (i := 3) (r := oA + 3) rfl rfl sl34 sz5 rfl (by omega) (by omega)) ?_
   refine TA.tk 10 2047 rfl rfl rfl (Val.loadB 3 rfl ag5 (hR.cons _) rfl (by omega)) ?_
   refine TA.tk 11 4095 rfl rfl rfl (Val.convI rfl iu5 in3 (r := m.metric) (by rw [hme]; exact wb _)) ?_
   refine TA.tk 12 8191 rfl rfl rfl (Val.move rfl) ?_
   refine TA.tk 16 73727 rfl rfl rfl (Val.move rfl) ?_
   refine TA.tk 18 335871 rfl rfl rfl (Val.move rfl) ?_
   refine TA.tk 20 1384447 rfl rfl rfl (Val.move rfl) ?_
   refine TA.two 13 23 (by kernel_rfl) ?_ ?_
   ·
    refine TO.dz 1392639 (some 26) rfl rfl rfl rfl (Does.callC (cap := [.pointer (some ⟨b1, 0, none⟩)]) rfl go93 rfl (clo105_fn l (some ⟨bA, oA, none⟩) 32 c 4 b1 1 _ rfl ((hA.cons _).cons _) hl.symm (by omega) (by omega))) ?_
    rintro _ _ ⟨rfl, rfl⟩
    refine roK ?_
    refine TA.tk 14 1409023 rfl rfl rfl (Val.convI rfl iu2 in161 rfl) ?_
    refine TA.tk 15 1441791 rfl rfl rfl (Val.convI rfl iu161 in3 (r := m.gen) (by rw [hme]; exact wu32 _)) ?_
    refine TA.two 17 23 (by kernel_rfl) ?_ ?_
    ·
     refine TO.dz 1572863 (some 30) rfl rfl rfl rfl (Does.callC (cap := [.pointer (some ⟨b1, 0, none⟩)]) rfl go93 rfl (clo105_fn l (some ⟨bA, oA, none⟩) 32 c 8 b1 1 _ rfl ((hA.cons _).cons _) hl.symm (by omega) (by omega))) ?_
     rintro _ _ ⟨rfl, rfl⟩
     rw [show IntKind.i64.wrap ((get8 l 8 : Nat) : Int) = m.seq from by rw [hme]; rfl]
     refine roK ?_
     refine TA.two 19 23 (by kernel_rfl) ?_ ?_
     ·
      refine TO.dz 2097151 (some 32) rfl rfl rfl rfl (Does.callC (cap := [.pointer (some ⟨b1, 0, none⟩)]) rfl go93 rfl (clo105_fn l (some ⟨bA, oA, none⟩) 32 c 16 b1 1 _ rfl ((hA.cons _).cons _) hl.symm (by omega) (by omega))) ?_
      rintro _ _ ⟨rfl, rfl⟩
      rw [show IntKind.i64.wrap ((get8 l 16 : Nat) : Int) = m.epoch from by rw [hme]; rfl]
      refine roK ?_
      refine TA.two 21 23 (by kernel_rfl) ?_ ?_
      ·
       refine TO.dz 4194303 (some 34) rfl rfl rfl rfl (Does.callC (cap := [.pointer (some ⟨b1, 0, none⟩)]) rfl go93 rfl (clo105_fn l (some ⟨bA, oA, none⟩) 32 c 24 b1 1 _ rfl ((hA.cons _).cons _) hl.symm (by omega) (by omega))) ?_
       rintro _ _ ⟨rfl, rfl⟩
       rw [show IntKind.i64.wrap ((get8 l 24 : Nat) : Int) = m.value from by rw [hme]; rfl]
       refine roK ?_
       refine TA.tk 22 8388607 rfl rfl rfl (Val.buildS pl39 ze39 rfl rfl) ?_
       refine TA.one 23 (by kernel_rfl) ?_
       refine TO.dz 16777215 (some 5) rfl rfl rfl rfl (Does.alloc ze39 rfl) ?_
       rintro _ _ ⟨bm, rfl, rfl⟩
       refine roK ?_
       refine TA.one 24 (by kernel_rfl) ?_
       refine TO.dz 33554431 none rfl rfl rfl rfl (Does.store (i := 0) rfl rfl rfl sz39 rfl rfl (by first | exact Nat.le_of_ble_eq_true rfl | decide | omega) rfl rfl) ?_
       rintro _ _ ⟨rfl, rfl⟩
       refine roK ?_
       refine TA.done (by kernel_rfl) ?_
       refine AtX.join bm ?_ (Sub.cons rfl (Sub.cons rfl (Sub.cons rfl (Sub.cons rfl (Sub.nil _))))) (fun w h => h)
       trivial
      ·
       refine TO.dz 10485759 (some 5) rfl rfl rfl rfl (Does.alloc ze39 rfl) ?_
       rintro _ _ ⟨bm, rfl, rfl⟩
       refine roK ?_
       refine TA.one 21 (by kernel_rfl) ?_
       refine TO.dz 12582911 (some 34) rfl rfl rfl rfl (Does.callC (cap := [.pointer (some ⟨b1, 0, none⟩)]) rfl go93 rfl (clo105_fn l (some ⟨bA, oA, none⟩) 32 c 24 b1 2 _ rfl (((hA.cons _).cons _).cons _) hl.symm (by omega) (by omega))) ?_
       rintro _ _ ⟨rfl, rfl⟩
       rw [show IntKind.i64.wrap ((get8 l 24 : Nat) : Int) = m.value from by rw [hme]; rfl]
       refine roK ?_
       refine TA.tk 22 16777215 rfl rfl rfl (Val.buildS pl39 ze39 rfl rfl) ?_
       refine TA.one 24 (by kernel_rfl) ?_
       refine TO.dz 33554431 none rfl rfl rfl rfl (Does.store (i := 0) rfl rfl rfl sz39 rfl rfl (by first | exact Nat.le_of_ble_eq_true rfl | decide | omega) rfl rfl) ?_
       rintro _ _ ⟨rfl, rfl⟩
       refine roK ?_
       refine TA.done (by kernel_rfl) ?_
       refine AtX.join bm ?_ (Sub.cons rfl (Sub.cons rfl (Sub.cons rfl (Sub.cons rfl (Sub.nil _))))) (fun w h => h)
       trivial
     ·
      refine TO.dz 9961471 (some 5) rfl rfl rfl rfl (Does.alloc ze39 rfl) ?_
      rintro _ _ ⟨bm, rfl, rfl⟩
      refine roK ?_
      refine TA.one 19 (by kernel_rfl) ?_
      refine TO.dz 10485759 (some 32) rfl rfl rfl rfl (Does.callC (cap := [.pointer (some ⟨b1, 0, none⟩)]) rfl go93 rfl (clo105_fn l (some ⟨bA, oA, none⟩) 32 c 16 b1 2 _ rfl (((hA.cons _).cons _).cons _) hl.symm (by omega) (by omega))) ?_
      rintro _ _ ⟨rfl, rfl⟩
      rw [show IntKind.i64.wrap ((get8 l 16 : Nat) : Int) = m.epoch from by rw [hme]; rfl]
      refine roK ?_
      refine TA.one 21 (by kernel_rfl) ?_
      refine TO.dz 12582911 (some 34) rfl rfl rfl rfl (Does.callC (cap := [.pointer (some ⟨b1, 0, none⟩)]) rfl go93 rfl (clo105_fn l (some ⟨bA, oA, none⟩) 32 c 24 b1 2 _ rfl (((hA.cons _).cons _).cons _) hl.symm (by omega) (by omega))) ?_
      rintro _ _ ⟨rfl, rfl⟩
      rw [show IntKind.i64.wrap ((get8 l 24 : Nat) : Int) = m.value from by rw [hme]; rfl]
      refine roK ?_
      refine TA.tk 22 16777215 rfl rfl rfl (Val.buildS pl39 ze39 rfl rfl) ?_
      refine TA.one 24 (by kernel_rfl) ?_
      refine TO.dz 33554431 none rfl rfl rfl rfl (Does.store (i := 0) rfl rfl rfl sz39 rfl rfl (by first | exact Nat.le_of_ble_eq_true rfl | decide | omega) rfl rfl) ?_
      rintro _ _ ⟨rfl, rfl⟩
      refine roK ?_
      refine TA.done (by kernel_rfl) ?_
      refine AtX.join bm ?_ (Sub.cons rfl (Sub.cons rfl (Sub.cons rfl (Sub.cons rfl (Sub.nil _))))) (fun w h => h)
      trivial
    ·
     refine TO.dz 9830399 (some 5) rfl rfl rfl rfl (Does.alloc ze39 rfl) ?_
     rintro _ _ ⟨bm, rfl, rfl⟩
     refine roK ?_
     refine TA.one 17 (by kernel_rfl) ?_
     refine TO.dz 9961471 (some 30) rfl rfl rfl rfl (Does.callC (cap := [.pointer (some ⟨b1, 0, none⟩)]) rfl go93 rfl (clo105_fn l (some ⟨bA, oA, none⟩) 32 c 8 b1 2 _ rfl (((hA.cons _).cons _).cons _) hl.symm (by omega) (by omega))) ?_
     rintro _ _ ⟨rfl, rfl⟩
     rw [show IntKind.i64.wrap ((get8 l 8 : Nat) : Int) = m.seq from by rw [hme]; rfl]
     refine roK ?_
     refine TA.one 19 (by kernel_rfl) ?_
     refine TO.dz 10485759 (some 32) rfl rfl rfl rfl (Does.callC (cap := [.pointer (some ⟨b1, 0, none⟩)]) rfl go93 rfl (clo105_fn l (some ⟨bA, oA, none⟩) 32 c 16 b1 2 _ rfl (((hA.cons _).cons _).cons _) hl.symm (by omega) (by omega))) ?_
     rintro _ _ ⟨rfl, rfl⟩
     rw [show IntKind.i64.wrap ((get8 l 16 : Nat) : Int) = m.epoch from by rw [hme]; rfl]
     refine roK ?_
     refine TA.one 21 (by kernel_rfl) ?_
     refine TO.dz 12582911 (some 34) rfl rfl rfl rfl (Does.callC (cap := [.pointer (some ⟨b1, 0, none⟩)]) rfl go93 rfl (clo105_fn l (some ⟨bA, oA, none⟩) 32 c 24 b1 2 _ rfl (((hA.cons _).cons _).cons _) hl.symm (by omega) (by omega))) ?_
     rintro _ _ ⟨rfl, rfl⟩
     rw [show IntKind.i64.wrap ((get8 l 24 : Nat) : Int) = m.value from by rw [hme]; rfl]
     refine roK ?_
     refine TA.tk 22 16777215 rfl rfl rfl (Val.buildS pl39 ze39 rfl rfl) ?_
     refine TA.one 24 (by kernel_rfl) ?_
     refine TO.dz 33554431 none rfl rfl rfl rfl (Does.store (i := 0) rfl rfl rfl sz39 rfl rfl (by first | exact Nat.le_of_ble_eq_true rfl | decide | omega) rfl rfl) ?_
     rintro _ _ ⟨rfl, rfl⟩
     refine roK ?_
     refine TA.done (by kernel_rfl) ?_
     refine AtX.join bm ?_ (Sub.cons rfl (Sub.cons rfl (Sub.cons rfl (Sub.cons rfl (Sub.nil _))))) (fun w h => h)
     trivial
   ·
    refine TO.dz 9773055 (some 5) rfl rfl rfl rfl (Does.alloc ze39 rfl) ?_
    rintro _ _ ⟨bm, rfl, rfl⟩
    refine roK ?_
    refine TA.one 13 (by kernel_rfl) ?_
    refine TO.dz 9781247 (some 26) rfl rfl rfl rfl (Does.callC (cap := [.pointer (some ⟨b1, 0, none⟩)]) rfl go93 rfl (clo105_fn l (some ⟨bA, oA, none⟩) 32 c 4 b1 2 _ rfl (((hA.cons _).cons _).cons _) hl.symm (by omega) (by omega))) ?_
    rintro _ _ ⟨rfl, rfl⟩
    refine roK ?_
    refine TA.tk 14 9797631 rfl rfl rfl (Val.convI rfl iu2 in161 rfl) ?_
    refine TA.tk 15 9830399 rfl rfl rfl (Val.convI rfl iu161 in3 (r := m.gen) (by rw [hme]; exact wu32 _)) ?_
    refine TA.one 17 (by kernel_rfl) ?_
    refine TO.dz 9961471 (some 30) rfl rfl rfl rfl (Does.callC (cap := [.pointer (some ⟨b1, 0, none⟩)]) rfl go93 rfl (clo105_fn l (some ⟨bA, oA, none⟩) 32 c 8 b1 2 _ rfl (((hA.cons _).cons _).cons _) hl.symm (by omega) (by omega))) ?_
    rintro _ _ ⟨rfl, rfl⟩
    rw [show IntKind.i64.wrap ((get8 l 8 : Nat) : Int) = m.seq from by rw [hme]; rfl]
    refine roK ?_
    refine TA.one 19 (by kernel_rfl) ?_
    refine TO.dz 10485759 (some 32) rfl rfl rfl rfl (Does.callC (cap := [.pointer (some ⟨b1, 0, none⟩)]) rfl go93 rfl (clo105_fn l (some ⟨bA, oA, none⟩) 32 c 16 b1 2 _ rfl (((hA.cons _).cons _).cons _) hl.symm (by omega) (by omega))) ?_
    rintro _ _ ⟨rfl, rfl⟩
    rw [show IntKind.i64.wrap ((get8 l 16 : Nat) : Int) = m.epoch from by rw [hme]; rfl]
    refine roK ?_
    refine TA.one 21 (by kernel_rfl) ?_
    refine TO.dz 12582911 (some 34) rfl rfl rfl rfl (Does.callC (cap := [.pointer (some ⟨b1, 0, none⟩)]) rfl go93 rfl (clo105_fn l (some ⟨bA, oA, none⟩) 32 c 24 b1 2 _ rfl (((hA.cons _).cons _).cons _) hl.symm (by omega) (by omega))) ?_
    rintro _ _ ⟨rfl, rfl⟩
    rw [show IntKind.i64.wrap ((get8 l 24 : Nat) : Int) = m.value from by rw [hme]; rfl]
    refine roK ?_
    refine TA.tk 22 16777215 rfl rfl rfl (Val.buildS pl39 ze39 rfl rfl) ?_
    refine TA.one 24 (by kernel_rfl) ?_
    refine TO.dz 33554431 none rfl rfl rfl rfl (Does.store (i := 0) rfl rfl rfl sz39 rfl rfl (by first | exact Nat.le_of_ble_eq_true rfl | decide | omega) rfl rfl) ?_
    rintro _ _ ⟨rfl, rfl⟩
    refine roK ?_
    refine TA.done (by kernel_rfl) ?_
    refine AtX.join bm ?_ (Sub.cons rfl (Sub.cons rfl (Sub.cons rfl (Sub.cons rfl (Sub.nil _))))) (fun w h => h)
    trivial
  ·
   intro bm _
   refine TC.seq ?_
   refine TC.sr ?_
   refine TL.v (Val.loadAgg 0 rfl ag39 sz39 rfl rfl rfl) ?_
   refine TL.d (Does.callF go89 rfl (wPut_fn m _ hm)) ?_
   rintro _ _ ⟨bB, cB, spB, rfl, hcB, rfl⟩
   refine TL.v (Val.move rfl) ?_
   refine TL.v (Val.extract rfl rfl) ?_
   refine TL.v (Val.extract rfl rfl) ?_
   refine TL.v (Val.assign rfl) ?_
   refine TL.v (Val.assign rfl) ?_
   refine TL.nt ?_
   refine TC.sr ?_
   refine TL.v (Val.move rfl) ?_
   refine TL.v (Val.neqI rfl rfl) ?_
   refine TL.v (Val.move rfl) ?_
   refine TL.vy (Val.move rfl) ?_
   refine TL.vy (Val.load 3 rfl ag34 rfl rfl) ?_
   refine TL.dy (Does.callF go95 rfl (Equal_fn (putM m) l _ _ _ _ _ _ _ (rd_all (i := 0) rfl) ((((hA.cons _).cons _).cons _).cons _) (by simp) hl.symm)) ?_
   rintro _ _ ⟨ge, hge, rfl, rfl⟩
   rw [decide_eq_false hne] at hge
   subst hge
   refine TL.vy (Val.not rfl) ?_
   refine TL.v (Val.pickOr rfl rfl rfl) ?_
   refine TL.nt ?_
   refine TC.en (E' := [(2, _), (3, _), (5, _), (48, _)]) ?_
   refine TC.cond rfl (fun c2 => ?_) (fun c2 => ?_)
   ·
    refine TC.sr ?_
    refine TL.v (Val.buildS pl39 ze39 rfl rfl) ?_
    refine TL.d (Does.store (i := 2) rfl rfl rfl sz39 rfl rfl (by first | exact Nat.le_of_ble_eq_true rfl | decide | omega) rfl rfl) ?_
    rintro _ _ ⟨rfl, rfl⟩
    refine TL.v (Val.assign rfl) ?_
    refine TL.nt ?_
    refine TC.r2 (M' := M) (fn := Tryz.f68) (fun _ _ h => h) rfl (RV.agg (i := 2) rfl ag39 sz39 rfl rfl rfl) (RV.tmp rfl) ?_
    exact ⟨rfl, rfl⟩
   ·
    first | exact absurd rfl c2 | (exfalso; simp at c2) | exact absurd c2 (by decide)

theorem wGet_no (l : List UInt8) (A : Option Addr) (n c : Nat) (M : Hp) (hA : RdS M A (bv l)) (hn : n = 32) (hl : l.length = 32) (ho : okL l = false) : FnC Tryz.prog 68 #[.slice A n c] M (fun v M' => v = .tuple #[.agg #[.int .i64 0, .int .i64 0, .int .i64 0, .int .i64 0, .int .i64 0, .int .i64 0, .int .i64 0], .int .i64 2] ∧ M = M') := by
 cases hm : mayM (decM l)
 · exact wGet_no1 l A n c M hA hn hl hm
 · exact wGet_no2 l A n c M hA hn hl hm (fun e => by rw [(okL_iff).2 ⟨hm, e⟩] at ho; cases ho)

/-- quorumite/wire.Split -/
theorem Split_bad (l : List UInt8) (A : Option Addr) (n c : Nat) (M : Hp) (hA : RdS M A (bv l)) (hn : n = 48) (hc : 48 ≤ c) (hl : l.length = 48) (ho : okL (l.take 32) = false) : FnC Tryz.prog 37 #[.slice A n c] M (fun v M' => v = .tuple #[.agg #[.int .i64 0, .int .i64 0, .int .i64 0, .int .i64 0, .int .i64 0, .int .i64 0, .int .i64 0], .slice none 0 0, .agg #[.int .u64 0, .int .u64 0], .int .i64 2] ∧ M = M') := by
 subst hn
 obtain ⟨bA, oA, rfl, hR⟩ := RdS.get hA (by simp; omega)
 have hA1 : RdS M (some ⟨bA, oA, none⟩) (bv (l.take 32)) := rdS_takeB hA 32
 refine FnC.intro Tryz.func37 rfl 37 rfl (by simp) (fun z => ?_)
 refine TC.en (E' := [(0, _)]) ?_
 refine TC.sr ?_
 refine TL.d (Does.alloc ze39 rfl) ?_
 rintro _ _ ⟨b1, rfl, rfl⟩
 refine TL.v (Val.assign rfl) ?_
 refine TL.d (Does.alloc ze98 rfl) ?_
 rintro _ _ ⟨b2, rfl, rfl⟩
 refine TL.v (Val.assign rfl) ?_
 refine TL.nt ?_
 refine TC.seq ?_
 refine TC.sr ?_
 refine TL.v (Val.move rfl) ?_
 refine TL.v (Val.lenSl rfl rfl sl34) ?_
 refine TL.v (Val.neqI rfl rfl) ?_
 refine TL.nt ?_
 refine TC.condP rfl (fun c1 => ?_) (fun c1 => ?_)
 ·
  exact absurd rfl c1
 ·
  refine TC.skip ?_
  refine AtX.then ?_
  refine TC.sr ?_
  refine TL.v (Val.move rfl) ?_
  refine TL.v (Val.sliceTo (j := 32) rfl sl34 sz5 rfl rfl (by omega)) ?_
  refine TL.d (Does.callF go68 rfl (wGet_no (l.take 32) _ _ _ _ ((hA1.cons _).cons _) rfl (by simp; omega) ho)) ?_
  rintro _ _ ⟨rfl, rfl⟩
  refine TL.v (Val.move rfl) ?_
  refine TL.v (Val.extract rfl rfl) ?_
  refine TL.v (Val.extract rfl rfl) ?_
  refine TL.d (Does.alloc ze39 rfl) ?_
  rintro _ _ ⟨b6, rfl, rfl⟩
  refine TL.d (Does.store (i := 0) rfl rfl rfl sz39 rfl rfl (by first | exact Nat.le_of_ble_eq_true rfl | decide | omega) rfl rfl) ?_
  rintro _ _ ⟨rfl, rfl⟩
  refine TL.v (Val.assign rfl) ?_
  refine TL.nt ?_
  refine TC.en (E' := [(0, _), (2, _), (3, _), (4, _), (5, _), (6, _), (7, _)]) ?_
  refine TC.seq ?_
  refine TC.sr ?_
  refine TL.v (Val.move rfl) ?_
  refine TL.v (Val.neqI rfl rfl) ?_
  refine TL.nt ?_
  refine TC.condP rfl (fun c2 => ?_) (fun c2 => ?_)
  ·
   refine TC.sr ?_
   refine TL.v (Val.buildS pl39 ze39 rfl rfl) ?_
   refine TL.v (Val.buildA ar98 sz24 ze98 rfl rfl) ?_
   refine TL.v (Val.move rfl) ?_
   refine TL.d (Does.store (i := 2) rfl rfl rfl sz39 rfl rfl (by first | exact Nat.le_of_ble_eq_true rfl | decide | omega) rfl rfl) ?_
   rintro _ _ ⟨rfl, rfl⟩
   refine TL.v (Val.assign rfl) ?_
   refine TL.d (Does.store (i := 1) rfl rfl rfl sz98 rfl rfl (by first | exact Nat.le_of_ble_eq_true rfl | decide | omega) rfl rfl) ?_
   rintro _ _ ⟨rfl, rfl⟩
   refine TL.v (Val.assign rfl) ?_
   refine TL.nt ?_
   refine TC.ret4 (fn := Tryz.f37) (fun _ _ h => h) rfl (RV.agg (i := 2) rfl ag39 sz39 rfl rfl rfl) (RV.tmp rfl) (RV.agg (i := 1) rfl ag98 sz98 rfl rfl rfl) (RV.tmp rfl) (M' := M) (by repeat (first | exact ro_refl | exact ro_pre | refine ro_tail ?_ | refine ro_app ?_)) ?_
   exact ⟨rfl, rfl⟩
  ·
   first | exact absurd rfl c2 | (exfalso; simp at c2) | exact absurd c2 (by decide)

end Go.Proofs.YtphoapajlcaoeaaGreat
/- walks -/
set_option linter.unusedVariables false
set_option linter.unusedSimpArgs false
set_option maxRecDepth 100000
set_option maxHeartbeats 4000000
namespace Go.Proofs.YtphoapajlcaoeaaGreat
open Go Go.X
/-- (*quorumite/verify.Gate).key -/
theorem gKey_two (gb rb lb nb cn ob co : Nat) (sn so : List Value) (c : Cf) (N : Nat) (asked ref : Int) (ones : List On) (nws ols : List Nat) (T : Hp) (hN : c.n = N) (h1 : ones.length = N) (h2 : nws.length = N) (h3 : ols.length = N) (hgr : 1 ≤ c.grace ∧ c.grace ≤ 100) (has : 0 ≤ asked ∧ asked ≤ 90000) (k : Nat) (x : On) (hx : ones[k]? = some x) (hxb : 0 ≤ x.gen ∧ x.gen ≤ 60000) (gen sq ep va me : Int) (hgen : -1000000 ≤ gen ∧ gen ≤ 1000000) (hk2 : gen - 1 ≠ x.gen) (now : Int) : FnC Tryz.prog 53 #[.pointer (some ⟨gb, 0, none⟩), .agg #[.int .i64 2, .int .i64 ((k : Nat) : Int), .int .i64 gen, .int .i64 sq, .int .i64 ep, .int .i64 va, .int .i64 me], .int .i64 now] (gateO gb c rb (some ⟨nb, 0, none⟩) N cn (some ⟨ob, 0, none⟩) N co ref :: ringO rb c.seed lb N c.grace asked :: (lb, row 127 (ones.flatMap On.cs)) :: (nb, row 62 (nws.map pp ++ sn)) :: (ob, row 62 (ols.map pp ++ so)) :: T) (fun v M' => v = .tuple #[.agg #[.int .u64 0, .int .u64 0], .int .i64 4] ∧ (gateO gb c rb (some ⟨nb, 0, none⟩) N cn (some ⟨ob, 0, none⟩) N co ref :: ringO rb c.seed lb N c.grace asked :: (lb, row 127 (ones.flatMap On.cs)) :: (nb, row 62 (nws.map pp ++ sn)) :: (ob, row 62 (ols.map pp ++ so)) :: T) = M') := by
 refine FnC.intro Tryz.func53 rfl 36 rfl (by simp) (fun z => ?_)
 refine TC.en (E' := [(0, _), (1, _), (2, _)]) ?_
 refine TC.sr ?_
 refine TL.d (Does.box rfl rfl) ?_
 rintro _ _ ⟨b1, rfl, rfl⟩
 refine TL.d (Does.alloc ze57 rfl) ?_
 rintro _ _ ⟨b2, rfl, rfl⟩
 refine TL.v (Val.assign rfl) ?_
 refine TL.nt ?_
 refine TC.seq ?_
 refine TC.seq ?_
 refine TC.drawLM mixed 15 ?_
 refine TA.tk 0 1 rfl rfl rfl (Val.fieldAddr rfl fl39_0 sz3 rfl) ?_
 refine TA.tk 1 3 rfl rfl rfl (Val.load 1 rfl ag3 rfl rfl) ?_
 refine TA.tk 2 7 rfl rfl rfl (Val.eqlI rfl rfl) ?_
 refine TA.tk 3 15 rfl rfl rfl (Val.move rfl) ?_
 refine TA.gen (fun g3 hg3 => ?_)
 refine TA.gtk 4 31 rfl rfl rfl rfl rfl (fun hg => by subst hg; exact (Val.loadAgg 1 rfl ag39 sz39 rfl rfl rfl)) ?_
 refine TA.gtk 6 95 rfl rfl rfl rfl rfl (fun hg => by subst hg; exact (Val.move rfl)) ?_
 refine TA.gtk 7 223 rfl rfl rfl rfl rfl (fun hg => by subst hg; exact (Val.nilCheck rfl)) ?_
 refine TA.gtk 8 479 rfl rfl rfl rfl rfl (fun hg => by subst hg; exact (Val.fieldAddr rfl fl90_1 sz60 rfl)) ?_
 refine TA.gtk 9 991 rfl rfl rfl rfl rfl (fun hg => by subst hg; exact (Val.load 2 rfl ag60 rfl rfl)) ?_
 refine TA.gtk 10 2015 rfl rfl rfl rfl rfl (fun hg => by subst hg; exact (Val.fieldAddr rfl fl39_1 sz3 rfl)) ?_
 refine TA.gtk 11 4063 rfl rfl rfl rfl rfl (fun hg => by subst hg; exact (Val.load 1 rfl ag3 rfl rfl)) ?_
 cases g3 with
 | false =>
  refine TA.tkP 5 4095 rfl rfl rfl rfl rfl rfl ?_
  refine TA.tkP 12 8191 rfl rfl rfl rfl rfl rfl ?_
  refine TA.tkP 13 16383 rfl rfl rfl rfl rfl rfl ?_
  refine TA.tk 14 32767 rfl rfl rfl (Val.pick rfl rfl rfl) ?_
  refine TA.done (by kernel_rfl) ?_
  refine AtX.then ?_
  refine TC.en (E' := [(0, _), (2, _), (4, _), (6, _), (7, _), (22, _)]) ?_
  refine TC.cond rfl (fun c1 => ?_) (fun c1 => ?_)
  ·
   refine TC.sr ?_
   refine TL.v (Val.buildA ar57 sz24 ze57 rfl rfl) ?_
   refine TL.d (Does.store (i := 0) rfl rfl rfl sz57 rfl rfl (by first | exact Nat.le_of_ble_eq_true rfl | decide | omega) rfl rfl) ?_
   rintro _ _ ⟨rfl, rfl⟩
   refine TL.v (Val.assign rfl) ?_
   refine TL.nt ?_
   refine TC.r2 (hM := (fun w h => h.drop.drop)) (M' := (gateO gb c rb (some ⟨nb, 0, none⟩) N cn (some ⟨ob, 0, none⟩) N co ref :: ringO rb c.seed lb N c.grace asked :: (lb, row 127 (ones.flatMap On.cs)) :: (nb, row 62 (nws.map pp ++ sn)) :: (ob, row 62 (ols.map pp ++ so)) :: T)) (fn := Tryz.f53) (fun _ _ h => h) rfl (RV.agg (i := 0) rfl ag57 sz57 rfl rfl rfl) (RV.tmp rfl) ?_
   exact ⟨rfl, rfl⟩
  ·
   (exfalso; unfold sgen at *; grind)
 | true =>
  refine TA.one 5 (by kernel_rfl) ?_
  refine TO.dzY 4095 (some 13) rfl rfl rfl rfl rfl rfl (Does.callF go82 rfl (sealed_k k 2 gen sq ep va me _ hgen)) ?_
  rintro _ _ ⟨rfl, rfl⟩
  skip
  refine roK ?_
  refine TA.one 12 (by kernel_rfl) ?_
  refine TO.dzY 8191 (some 20) rfl rfl rfl rfl rfl rfl (Does.callF go23 rfl (rGen_fn rb lb 3 c.seed N c.grace asked _ rfl ones (.some (rd_rowA (i := 4) rfl)) h1.symm k x hx)) ?_
  rintro _ _ ⟨rfl, rfl⟩
  refine roK ?_
  refine TA.tkY 13 16383 rfl rfl rfl rfl rfl (Val.neqI rfl rfl) ?_
  refine TA.tk 14 32767 rfl rfl rfl (Val.pickAnd rfl rfl rfl) ?_
  refine TA.done (by kernel_rfl) ?_
  refine AtX.then ?_
  refine TC.en (E' := [(0, _), (2, _), (4, _), (6, _), (7, _), (22, _)]) ?_
  refine TC.condP rfl (fun c2 => ?_) (fun c2 => ?_)
  ·
   refine TC.sr ?_
   refine TL.v (Val.buildA ar57 sz24 ze57 rfl rfl) ?_
   refine TL.d (Does.store (i := 0) rfl rfl rfl sz57 rfl rfl (by first | exact Nat.le_of_ble_eq_true rfl | decide | omega) rfl rfl) ?_
   rintro _ _ ⟨rfl, rfl⟩
   refine TL.v (Val.assign rfl) ?_
   refine TL.nt ?_
   refine TC.r2 (hM := (fun w h => h.drop.drop)) (M' := (gateO gb c rb (some ⟨nb, 0, none⟩) N cn (some ⟨ob, 0, none⟩) N co ref :: ringO rb c.seed lb N c.grace asked :: (lb, row 127 (ones.flatMap On.cs)) :: (nb, row 62 (nws.map pp ++ sn)) :: (ob, row 62 (ols.map pp ++ so)) :: T)) (fn := Tryz.f53) (fun _ _ h => h) rfl (RV.agg (i := 0) rfl ag57 sz57 rfl rfl rfl) (RV.tmp rfl) ?_
   exact ⟨rfl, rfl⟩
  ·
   (exfalso; unfold sgen at *; grind)

/-- (*quorumite/verify.Gate).check -/
theorem check_who (gb rb lb nb cn ob co : Nat) (sn so : List Value) (c : Cf) (N : Nat) (asked ref : Int) (ones : List On) (nws ols : List Nat) (T : Hp) (hN : c.n = N) (k : Nat) (hkN : N ≤ k) (kind gen sq ep va me : Int) (A : Option Addr) (nn cc : Nat) (tg : K2) (now : Int) : FnC Tryz.prog 38 #[.pointer (some ⟨gb, 0, none⟩), .agg #[.int .i64 kind, .int .i64 ((k : Nat) : Int), .int .i64 gen, .int .i64 sq, .int .i64 ep, .int .i64 va, .int .i64 me], .slice A nn cc, .agg #[.int .u64 tg.a, .int .u64 tg.b], .int .i64 now, .nilFunc] (gateO gb c rb (some ⟨nb, 0, none⟩) N cn (some ⟨ob, 0, none⟩) N co ref :: ringO rb c.seed lb N c.grace asked :: (lb, row 127 (ones.flatMap On.cs)) :: (nb, row 62 (nws.map pp ++ sn)) :: (ob, row 62 (ols.map pp ++ so)) :: T) (fun v M' => v = .int .i64 3 ∧ (gateO gb c rb (some ⟨nb, 0, none⟩) N cn (some ⟨ob, 0, none⟩) N co ref :: ringO rb c.seed lb N c.grace asked :: (lb, row 127 (ones.flatMap On.cs)) :: (nb, row 62 (nws.map pp ++ sn)) :: (ob, row 62 (ols.map pp ++ so)) :: T) = M') := by
 refine FnC.intro Tryz.func38 rfl 88 rfl (by simp) (fun z => ?_)
 refine TC.en (E' := [(0, _), (1, _), (2, _), (3, _), (4, _), (5, _)]) ?_
 refine TC.sr ?_
 refine TL.d (Does.box rfl rfl) ?_
 rintro _ _ ⟨b1, rfl, rfl⟩
 refine TL.d (Does.box rfl rfl) ?_
 rintro _ _ ⟨b2, rfl, rfl⟩
 refine TL.v (Val.assign rfl) ?_
 refine TL.nt ?_
 refine TC.seq ?_
 refine TC.seq ?_
 refine TC.heap (M' := (gateO gb c rb (some ⟨nb, 0, none⟩) N cn (some ⟨ob, 0, none⟩) N co ref :: ringO rb c.seed lb N c.grace asked :: (lb, row 127 (ones.flatMap On.cs)) :: (nb, row 62 (nws.map pp ++ sn)) :: (ob, row 62 (ols.map pp ++ so)) :: ((b2, .cells #[.int .u64 tg.a, .int .u64 tg.b] 98 (0, 0)) :: (b1, .cells #[.int .i64 kind, .int .i64 ((k : Nat) : Int), .int .i64 gen, .int .i64 sq, .int .i64 ep, .int .i64 va, .int .i64 me] 39 (0, 0)) :: T))) (fun w h => ro_mv (A := [_, _]) (L := [_, _, _, _, _]) w h) ?_
 refine TC.drawLM mixed 18 ?_
 refine TA.tk 0 1 rfl rfl rfl (Val.fieldAddr rfl fl39_1 sz3 rfl) ?_
 refine TA.tk 1 3 rfl rfl rfl (Val.load 6 rfl ag3 rfl rfl) ?_
 refine TA.tk 2 7 rfl rfl rfl (Val.move rfl) ?_
 refine TA.tk 3 15 rfl rfl rfl (Val.nilCheck rfl) ?_
 refine TA.tk 4 31 rfl rfl rfl (Val.fieldAddr rfl fl90_0 sz26 rfl) ?_
 refine TA.tk 5 63 rfl rfl rfl (Val.fieldAddr rfl fl26_0 sz3 rfl) ?_
 refine TA.tk 6 127 rfl rfl rfl (Val.load 0 rfl ag3 rfl rfl) ?_
 refine TA.tk 7 255 rfl rfl rfl (Val.geq rfl rfl) ?_
 refine TA.tk 8 511 rfl rfl rfl (Val.move rfl) ?_
 refine TA.gen (fun g3 hg3 => ?_)
 cases g3 with
 | false =>
  (exfalso; grind)
 | true =>
  refine TA.tkP 9 1023 rfl rfl rfl rfl rfl rfl ?_
  refine TA.tkP 10 2047 rfl rfl rfl rfl rfl rfl ?_
  refine TA.tkP 11 4095 rfl rfl rfl rfl rfl rfl ?_
  refine TA.tkU 12 8191 rfl rfl rfl rfl rfl ?_
  refine TA.tkU 13 16383 rfl rfl rfl rfl rfl ?_
  refine TA.tkU 14 32767 rfl rfl rfl rfl rfl ?_
  refine TA.tkU 15 65535 rfl rfl rfl rfl rfl ?_
  refine TA.tkP 16 131071 rfl rfl rfl rfl rfl rfl ?_
  refine TA.tk 17 262143 rfl rfl rfl (Val.pick rfl rfl rfl) ?_
  refine TA.done (by kernel_rfl) ?_
  refine AtX.then ?_
  refine TC.en (E' := [(0, _), (2, _), (4, _), (7, _), (9, _), (12, _), (32, _)]) ?_
  refine TC.cond rfl (fun c1 => ?_) (fun c1 => ?_)
  ·
   refine TC.sr ?_
   refine TL.v (Val.assign rfl) ?_
   refine TL.nt ?_
   refine TC.r1 (hM := (fun w h => (ro_mv (A := [_, _, _, _, _]) (L := [_, _]) w h).drop.drop)) (M' := (gateO gb c rb (some ⟨nb, 0, none⟩) N cn (some ⟨ob, 0, none⟩) N co ref :: ringO rb c.seed lb N c.grace asked :: (lb, row 127 (ones.flatMap On.cs)) :: (nb, row 62 (nws.map pp ++ sn)) :: (ob, row 62 (ols.map pp ++ so)) :: T)) (fn := Tryz.f38) (fun _ _ h => h) rfl (RV.tmp rfl) ?_
   exact ⟨rfl, rfl⟩
  ·
   (exfalso; grind)

/-- (*quorumite/verify.Gate).check -/
theorem check_rot (gb rb lb nb cn ob co : Nat) (sn so : List Value) (c : Cf) (N : Nat) (asked ref : Int) (ones : List On) (nws ols : List Nat) (T : Hp) (hN : c.n = N) (h1 : ones.length = N) (h2 : nws.length = N) (h3 : ols.length = N) (hgr : 1 ≤ c.grace ∧ c.grace ≤ 100) (has : 0 ≤ asked ∧ asked ≤ 90000) (k : Nat) (x : On) (hx : ones[k]? = some x) (hxb : 0 ≤ x.gen ∧ x.gen ≤ 60000) (gen sq ep va me : Int) (hgen : -1000000 ≤ gen ∧ gen ≤ 1000000) (hk2 : gen - 1 ≠ x.gen) (A : Option Addr) (nn cc : Nat) (tg : K2) (now : Int) : FnC Tryz.prog 38 #[.pointer (some ⟨gb, 0, none⟩), .agg #[.int .i64 2, .int .i64 ((k : Nat) : Int), .int .i64 gen, .int .i64 sq, .int .i64 ep, .int .i64 va, .int .i64 me], .slice A nn cc, .agg #[.int .u64 tg.a, .int .u64 tg.b], .int .i64 now, .nilFunc] (gateO gb c rb (some ⟨nb, 0, none⟩) N cn (some ⟨ob, 0, none⟩) N co ref :: ringO rb c.seed lb N c.grace asked :: (lb, row 127 (ones.flatMap On.cs)) :: (nb, row 62 (nws.map pp ++ sn)) :: (ob, row 62 (ols.map pp ++ so)) :: T) (fun v M' => v = .int .i64 4 ∧ (gateO gb c rb (some ⟨nb, 0, none⟩) N cn (some ⟨ob, 0, none⟩) N co ref :: ringO rb c.seed lb N c.grace asked :: (lb, row 127 (ones.flatMap On.cs)) :: (nb, row 62 (nws.map pp ++ sn)) :: (ob, row 62 (ols.map pp ++ so)) :: T) = M') := by
 have hkN : k < N := by rw [← h1]; exact (List.getElem?_eq_some_iff.1 hx).1
 refine FnC.intro Tryz.func38 rfl 88 rfl (by simp) (fun z => ?_)
 refine TC.en (E' := [(0, _), (1, _), (2, _), (3, _), (4, _), (5, _)]) ?_
 refine TC.sr ?_
 refine TL.d (Does.box rfl rfl) ?_
 rintro _ _ ⟨b1, rfl, rfl⟩
 refine TL.d (Does.box rfl rfl) ?_
 rintro _ _ ⟨b2, rfl, rfl⟩
 refine TL.v (Val.assign rfl) ?_
 refine TL.nt ?_
 refine TC.seq ?_
 refine TC.seq ?_
 refine TC.heap (M' := (gateO gb c rb (some ⟨nb, 0, none⟩) N cn (some ⟨ob, 0, none⟩) N co ref :: ringO rb c.seed lb N c.grace asked :: (lb, row 127 (ones.flatMap On.cs)) :: (nb, row 62 (nws.map pp ++ sn)) :: (ob, row 62 (ols.map pp ++ so)) :: ((b2, .cells #[.int .u64 tg.a, .int .u64 tg.b] 98 (0, 0)) :: (b1, .cells #[.int .i64 2, .int .i64 ((k : Nat) : Int), .int .i64 gen, .int .i64 sq, .int .i64 ep, .int .i64 va, .int .i64 me] 39 (0, 0)) :: T))) (fun w h => ro_mv (A := [_, _]) (L := [_, _, _, _, _]) w h) ?_
 refine TC.drawLM mixed 18 ?_
 refine TA.tk 0 1 rfl rfl rfl (Val.fieldAddr rfl fl39_1 sz3 rfl) ?_
 refine TA.tk 1 3 rfl rfl rfl (Val.load 6 rfl ag3 rfl rfl) ?_
 refine TA.tk 2 7 rfl rfl rfl (Val.move rfl) ?_
 refine TA.tk 3 15 rfl rfl rfl (Val.nilCheck rfl) ?_
 refine TA.tk 4 31 rfl rfl rfl (Val.fieldAddr rfl fl90_0 sz26 rfl) ?_
 refine TA.tk 5 63 rfl rfl rfl (Val.fieldAddr rfl fl26_0 sz3 rfl) ?_
 refine TA.tk 6 127 rfl rfl rfl (Val.load 0 rfl ag3 rfl rfl) ?_
 refine TA.tk 7 255 rfl rfl rfl (Val.geq rfl rfl) ?_
 refine TA.tk 8 511 rfl rfl rfl (Val.move rfl) ?_
 refine TA.gen (fun g3 hg3 => ?_)
 cases g3 with
 | false =>
  refine TA.tkY 9 1023 rfl rfl rfl rfl rfl (Val.move rfl) ?_
  refine TA.tkY 10 2047 rfl rfl rfl rfl rfl (Val.neqNilF rfl rfl (by kernel_rfl)) ?_
  refine TA.tkY 11 4095 rfl rfl rfl rfl rfl (Val.move rfl) ?_
  refine TA.gen (fun g4 hg4 => ?_)
  refine TA.gtk 12 8191 rfl rfl rfl rfl rfl (fun hg => by subst hg; exact (Val.move rfl)) ?_
  refine TA.gtk 13 16383 rfl rfl rfl rfl rfl (fun hg => by subst hg; exact (Val.fieldAddr rfl fl39_1 sz3 rfl)) ?_
  refine TA.gtk 14 32767 rfl rfl rfl rfl rfl (fun hg => by subst hg; exact (Val.load 6 rfl ag3 rfl rfl)) ?_
  cases g4 with
  | false =>
   refine TA.tkP 15 65535 rfl rfl rfl rfl rfl rfl ?_
   refine TA.tkY 16 131071 rfl rfl rfl rfl rfl (Val.pick rfl rfl rfl) ?_
   refine TA.tk 17 262143 rfl rfl rfl (Val.pickOr rfl rfl rfl) ?_
   refine TA.done (by kernel_rfl) ?_
   refine AtX.then ?_
   refine TC.en (E' := [(0, _), (2, _), (4, _), (7, _), (9, _), (12, _), (32, _)]) ?_
   refine TC.cond rfl (fun c1 => ?_) (fun c1 => ?_)
   ·
    (exfalso; grind)
   ·
    refine TC.skip ?_
    refine AtX.then ?_
    refine TC.sr ?_
    refine TL.v (Val.move rfl) ?_
    refine TL.v (Val.loadAgg 6 rfl ag39 sz39 rfl rfl rfl) ?_
    refine TL.v (Val.move rfl) ?_
    refine TL.d (Does.callF go53 rfl (gKey_two gb rb lb nb cn ob co sn so c N asked ref ones nws ols _ hN h1 h2 h3 hgr has k x hx hxb gen sq ep va me hgen hk2 now)) ?_
    rintro _ _ ⟨rfl, rfl⟩
    refine TL.v (Val.move rfl) ?_
    refine TL.v (Val.extract rfl rfl) ?_
    refine TL.v (Val.extract rfl rfl) ?_
    refine TL.d (Does.alloc ze57 rfl) ?_
    rintro _ _ ⟨b3_, rfl, rfl⟩
    refine TL.heap (M' := (gateO gb c rb (some ⟨nb, 0, none⟩) N cn (some ⟨ob, 0, none⟩) N co ref :: ringO rb c.seed lb N c.grace asked :: (lb, row 127 (ones.flatMap On.cs)) :: (nb, row 62 (nws.map pp ++ sn)) :: (ob, row 62 (ols.map pp ++ so)) :: ((b3_, .cells #[.int .u64 0, .int .u64 0] 57 (0, 0)) :: ((b2, .cells #[.int .u64 tg.a, .int .u64 tg.b] 98 (0, 0)) :: (b1, .cells #[.int .i64 2, .int .i64 ((k : Nat) : Int), .int .i64 gen, .int .i64 sq, .int .i64 ep, .int .i64 va, .int .i64 me] 39 (0, 0)) :: T)))) (fun w h => ro_mv (A := [_]) (L := [_, _, _, _, _]) w h) ?_
    refine TL.d (Does.store (i := 5) rfl rfl rfl sz57 rfl rfl (by first | exact Nat.le_of_ble_eq_true rfl | decide | omega) rfl rfl) ?_
    rintro _ _ ⟨rfl, rfl⟩
    refine TL.v (Val.assign rfl) ?_
    refine TL.nt ?_
    refine TC.en (E' := [(0, _), (2, _), (4, _), (7, _), (9, _), (12, _), (13, _), (14, _)]) ?_
    refine TC.seq ?_
    refine TC.block ?_
    refine TC.sr ?_
    refine TL.v (Val.move rfl) ?_
    refine TL.v (Val.neqI rfl rfl) ?_
    refine TL.v (Val.assign rfl) ?_
    refine TL.nt ?_
    refine TC.condP rfl (fun c2 => ?_) (fun c2 => ?_)
    ·
     refine TC.en (E' := [(12, _), (14, _)]) ?_
     refine TC.sr ?_
     refine TL.v (Val.move rfl) ?_
     refine TL.v (Val.assign rfl) ?_
     refine TL.nt ?_
     refine TC.r1 (hM := (fun w h => (ro_mv (A := [_, _, _, _, _]) (L := [_, _, _]) w h).drop.drop.drop)) (M' := (gateO gb c rb (some ⟨nb, 0, none⟩) N cn (some ⟨ob, 0, none⟩) N co ref :: ringO rb c.seed lb N c.grace asked :: (lb, row 127 (ones.flatMap On.cs)) :: (nb, row 62 (nws.map pp ++ sn)) :: (ob, row 62 (ols.map pp ++ so)) :: T)) (fn := Tryz.f38) (fun _ _ h => h) rfl (RV.tmp rfl) ?_
     exact ⟨rfl, rfl⟩
    ·
     first | exact absurd rfl c2 | (exfalso; simp at c2) | exact absurd c2 (by decide)
  | true =>
   (exfalso; simp at hg4)
 | true =>
  (exfalso; grind)

end Go.Proofs.YtphoapajlcaoeaaGreat
/- walks -/
set_option linter.unusedVariables false
set_option linter.unusedSimpArgs false
set_option maxRecDepth 100000
set_option maxHeartbeats 4000000
namespace Go.Proofs.YtphoapajlcaoeaaGreat
open Go Go.X
/-- (*quorumite/verify.Gate).Check -/
theorem Check_bad (gb rb lb nb cn ob co : Nat) (sn so : List Value) (c : Cf) (N : Nat) (asked ref : Int) (ones : List On) (nws ols : List Nat) (T : Hp) (l : List UInt8) (A : Option Addr) (cc : Nat) (hA : RdS T A (bv l)) (hcc : 48 ≤ cc) (hl : l.length = 48) (ho : okL (l.take 32) = false) (now : Int) (href : 0 ≤ ref ∧ ref ≤ 100000)  : FnC Tryz.prog 10 #[.pointer (some ⟨gb, 0, none⟩), .slice A 48 cc, .int .i64 now, .nilFunc] (gateO gb c rb (some ⟨nb, 0, none⟩) N cn (some ⟨ob, 0, none⟩) N co ref :: ringO rb c.seed lb N c.grace asked :: (lb, row 127 (ones.flatMap On.cs)) :: (nb, row 62 (nws.map pp ++ sn)) :: (ob, row 62 (ols.map pp ++ so)) :: T) (fun v M' => v = .tuple #[.agg #[.int .i64 0, .int .i64 0, .int .i64 0, .int .i64 0, .int .i64 0, .int .i64 0, .int .i64 0], .int .i64 2] ∧ M' = (gateO gb c rb (some ⟨nb, 0, none⟩) N cn (some ⟨ob, 0, none⟩) N co (ref + 1) :: ringO rb c.seed lb N c.grace asked :: (lb, row 127 (ones.flatMap On.cs)) :: (nb, row 62 (nws.map pp ++ sn)) :: (ob, row 62 (ols.map pp ++ so)) :: T)) := by
 refine FnC.intro Tryz.func10 rfl 42 rfl (by simp) (fun z => ?_)
 refine TC.en (E' := [(0, _), (1, _), (2, _), (3, _)]) ?_
 refine TC.sr ?_
 refine TL.d (Does.alloc ze39 rfl) ?_
 rintro _ _ ⟨b1, rfl, rfl⟩
 refine TL.v (Val.assign rfl) ?_
 refine TL.nt ?_
 refine TC.seq ?_
 refine TC.sr ?_
 refine TL.v (Val.move rfl) ?_
 refine TL.v (Val.eqlNil rfl rfl pt28) ?_
 refine TL.nt ?_
 refine TC.cond rfl (fun c1 => ?_) (fun c1 => ?_)
 ·
  (exfalso; simp at c1)
 ·
  refine TC.skip ?_
  refine AtX.then ?_
  refine TC.sr ?_
  refine TL.v (Val.move rfl) ?_
  refine TL.d (Does.callF go37 rfl (Split_bad l A 48 cc _ ((((((hA.cons _).cons _).cons _).cons _).cons _).cons _) rfl hcc hl ho)) ?_
  rintro _ _ ⟨rfl, rfl⟩
  refine TL.v (Val.move rfl) ?_
  refine TL.v (Val.extract rfl rfl) ?_
  refine TL.v (Val.extract rfl rfl) ?_
  refine TL.v (Val.extract rfl rfl) ?_
  refine TL.v (Val.extract rfl rfl) ?_
  refine TL.d (Does.alloc ze39 rfl) ?_
  rintro _ _ ⟨bM, rfl, rfl⟩
  refine TL.d (Does.alloc ze98 rfl) ?_
  rintro _ _ ⟨bT_, rfl, rfl⟩
  refine TL.d (Does.store (i := 1) rfl rfl rfl sz39 rfl rfl (by first | exact Nat.le_of_ble_eq_true rfl | decide | omega) rfl rfl) ?_
  rintro _ _ ⟨rfl, rfl⟩
  refine TL.v (Val.assign rfl) ?_
  refine TL.d (Does.store (i := 0) rfl rfl rfl sz98 rfl rfl (by first | exact Nat.le_of_ble_eq_true rfl | decide | omega) rfl rfl) ?_
  rintro _ _ ⟨rfl, rfl⟩
  refine TL.v (Val.assign rfl) ?_
  refine TL.nt ?_
  refine TC.en (E' := [(0, _), (2, _), (3, _), (8, _), (9, _), (10, _), (11, _), (12, _), (13, _)]) ?_
  refine TC.seq ?_
  refine TC.seq ?_
  refine TC.heap (M' := (gateO gb c rb (some ⟨nb, 0, none⟩) N cn (some ⟨ob, 0, none⟩) N co ref :: ringO rb c.seed lb N c.grace asked :: (lb, row 127 (ones.flatMap On.cs)) :: (nb, row 62 (nws.map pp ++ sn)) :: (ob, row 62 (ols.map pp ++ so)) :: ((bT_, .cells #[.int .u64 0, .int .u64 0] 98 (0, 0)) :: (bM, .cells #[.int .i64 0, .int .i64 0, .int .i64 0, .int .i64 0, .int .i64 0, .int .i64 0, .int .i64 0] 39 (0, 0)) :: (b1, .cells #[.int .i64 0, .int .i64 0, .int .i64 0, .int .i64 0, .int .i64 0, .int .i64 0, .int .i64 0] 39 (0, 0)) :: T))) (fun w h => ro_mv (A := [_, _, _]) (L := [_, _, _, _, _]) w h) ?_
  refine TC.region ?_
  refine TL.v (Val.move rfl) ?_
  refine TL.v (Val.eqlI rfl rfl) ?_
  refine TL.nt ?_
  refine TC.condP rfl (fun c2 => ?_) (fun c2 => ?_)
  ·
   (exfalso; simp at c2)
  ·
   refine TC.skip ?_
   refine AtX.then ?_
   refine TC.seq ?_
   refine TC.sr ?_
   refine TL.v (Val.move rfl) ?_
   refine TL.v (Val.neqI rfl rfl) ?_
   refine TL.nt ?_
   refine TC.condP rfl (fun c3 => ?_) (fun c3 => ?_)
   ·
    refine TC.en (E' := [(0, _), (8, _), (9, _), (10, _), (13, _)]) ?_
    refine TC.sr ?_
    refine TL.v (Val.move rfl) ?_
    refine TL.v (Val.nilCheck rfl) ?_
    refine TL.v (Val.fieldAddr rfl fl90_4 sz88 rfl) ?_
    refine TL.d (Does.callF go39 rfl (aAdd_fn gb 29 0 _ _ ref 1 (ref + 1) _ rfl rfl (w_i64 (by omega) (by omega)))) ?_
    rintro _ _ ⟨rfl, rfl⟩
    refine TL.nt ?_
    refine TC.sr ?_
    refine TL.v (Val.buildS pl39 ze39 rfl rfl) ?_
    refine TL.v (Val.move rfl) ?_
    refine TL.d (Does.store (i := 7) rfl rfl rfl sz39 rfl rfl (by first | exact Nat.le_of_ble_eq_true rfl | decide | omega) rfl rfl) ?_
    rintro _ _ ⟨rfl, rfl⟩
    refine TL.v (Val.assign rfl) ?_
    refine TL.nt ?_
    refine TC.en (E' := [(8, _), (9, _), (10, _)]) ?_
    refine TC.r2 (hM := (fun w h => (ro_mv (A := [_, _, _, _, _]) (L := [_, _, _]) w h).drop.drop.drop)) (M' := (gateO gb c rb (some ⟨nb, 0, none⟩) N cn (some ⟨ob, 0, none⟩) N co (ref + 1) :: ringO rb c.seed lb N c.grace asked :: (lb, row 127 (ones.flatMap On.cs)) :: (nb, row 62 (nws.map pp ++ sn)) :: (ob, row 62 (ols.map pp ++ so)) :: T)) (fn := Tryz.f10) (fun _ _ h => h) rfl (RV.agg (i := 7) rfl ag39 sz39 rfl rfl rfl) (RV.tmp rfl) ?_
    exact ⟨rfl, rfl⟩
   ·
    (exfalso; simp at c3)

/-- (*quorumite/verify.Gate).Check -/
theorem Check_who (gb rb lb nb cn ob co : Nat) (sn so : List Value) (c : Cf) (N : Nat) (asked ref : Int) (ones : List On) (nws ols : List Nat) (T : Hp) (hN : c.n = N) (k : Nat) (hkN : N ≤ k) (kind gen sq ep va me : Int) (now : Int) (hm : mayM ⟨kind, (k : Nat), gen, sq, ep, va, me⟩ = true) (href : 0 ≤ ref ∧ ref ≤ 100000) (tl : List UInt8) (A : Option Addr) (cc : Nat) (hA : RdS T A (bv (putM ⟨kind, (k : Nat), gen, sq, ep, va, me⟩ ++ tl))) (hcc : 48 ≤ cc) (htl : tl.length = 16)  : FnC Tryz.prog 10 #[.pointer (some ⟨gb, 0, none⟩), .slice A 48 cc, .int .i64 now, .nilFunc] (gateO gb c rb (some ⟨nb, 0, none⟩) N cn (some ⟨ob, 0, none⟩) N co ref :: ringO rb c.seed lb N c.grace asked :: (lb, row 127 (ones.flatMap On.cs)) :: (nb, row 62 (nws.map pp ++ sn)) :: (ob, row 62 (ols.map pp ++ so)) :: T) (fun v M' => v = .tuple #[.agg #[.int .i64 0, .int .i64 0, .int .i64 0, .int .i64 0, .int .i64 0, .int .i64 0, .int .i64 0], .int .i64 3] ∧ M' = (gateO gb c rb (some ⟨nb, 0, none⟩) N cn (some ⟨ob, 0, none⟩) N co (ref + 1) :: ringO rb c.seed lb N c.grace asked :: (lb, row 127 (ones.flatMap On.cs)) :: (nb, row 62 (nws.map pp ++ sn)) :: (ob, row 62 (ols.map pp ++ so)) :: T)) := by
 refine FnC.intro Tryz.func10 rfl 42 rfl (by simp) (fun z => ?_)
 refine TC.en (E' := [(0, _), (1, _), (2, _), (3, _)]) ?_
 refine TC.sr ?_
 refine TL.d (Does.alloc ze39 rfl) ?_
 rintro _ _ ⟨b1, rfl, rfl⟩
 refine TL.v (Val.assign rfl) ?_
 refine TL.nt ?_
 refine TC.seq ?_
 refine TC.sr ?_
 refine TL.v (Val.move rfl) ?_
 refine TL.v (Val.eqlNil rfl rfl pt28) ?_
 refine TL.nt ?_
 refine TC.cond rfl (fun c1 => ?_) (fun c1 => ?_)
 ·
  (exfalso; simp at c1)
 ·
  refine TC.skip ?_
  refine AtX.then ?_
  refine TC.sr ?_
  refine TL.v (Val.move rfl) ?_
  refine TL.d (Does.callF go37 rfl (Split_fn ⟨kind, (k : Nat), gen, sq, ep, va, me⟩ tl A 48 cc _ ((((((hA.cons _).cons _).cons _).cons _).cons _).cons _) rfl hcc htl hm)) ?_
  rintro _ _ ⟨σ, rfl, hokσ, rfl⟩
  obtain ⟨bc, cc2, spc, rfl, hcc2⟩ := hokσ.some (by omega)
  refine TL.v (Val.move rfl) ?_
  refine TL.v (Val.extract rfl rfl) ?_
  refine TL.v (Val.extract rfl rfl) ?_
  refine TL.v (Val.extract rfl rfl) ?_
  refine TL.v (Val.extract rfl rfl) ?_
  refine TL.d (Does.alloc ze39 rfl) ?_
  rintro _ _ ⟨bM, rfl, rfl⟩
  refine TL.d (Does.alloc ze98 rfl) ?_
  rintro _ _ ⟨bT_, rfl, rfl⟩
  refine TL.d (Does.store (i := 1) rfl rfl rfl sz39 rfl rfl (by first | exact Nat.le_of_ble_eq_true rfl | decide | omega) rfl rfl) ?_
  rintro _ _ ⟨rfl, rfl⟩
  refine TL.v (Val.assign rfl) ?_
  refine TL.d (Does.store (i := 0) rfl rfl rfl sz98 rfl rfl (by first | exact Nat.le_of_ble_eq_true rfl | decide | omega) rfl rfl) ?_
  rintro _ _ ⟨rfl, rfl⟩
  refine TL.v (Val.assign rfl) ?_
  refine TL.nt ?_
  refine TC.en (E' := [(0, _), (2, _), (3, _), (8, _), (9, _), (10, _), (11, _), (12, _), (13, _)]) ?_
  refine TC.seq ?_
  refine TC.seq ?_
  refine TC.heap (M' := (gateO gb c rb (some ⟨nb, 0, none⟩) N cn (some ⟨ob, 0, none⟩) N co ref :: ringO rb c.seed lb N c.grace asked :: (lb, row 127 (ones.flatMap On.cs)) :: (nb, row 62 (nws.map pp ++ sn)) :: (ob, row 62 (ols.map pp ++ so)) :: ((bT_, .cells #[.int .u64 ((get8 tl 0 : Nat) : Int), .int .u64 ((get8 tl 8 : Nat) : Int)] 98 (0, 0)) :: (bM, .cells #[.int .i64 kind, .int .i64 ((k : Nat) : Int), .int .i64 gen, .int .i64 sq, .int .i64 ep, .int .i64 va, .int .i64 me] 39 (0, 0)) :: (bc, row 5 (bv (putM ⟨kind, (k : Nat), gen, sq, ep, va, me⟩) ++ spc)) :: (b1, .cells #[.int .i64 0, .int .i64 0, .int .i64 0, .int .i64 0, .int .i64 0, .int .i64 0, .int .i64 0] 39 (0, 0)) :: T))) (fun w h => ro_mv (A := [_, _, _, _]) (L := [_, _, _, _, _]) w h) ?_
  refine TC.region ?_
  refine TL.v (Val.move rfl) ?_
  refine TL.v (Val.eqlI rfl rfl) ?_
  refine TL.nt ?_
  refine TC.condP rfl (fun c2 => ?_) (fun c2 => ?_)
  ·
   refine TC.region ?_
   refine TL.v (Val.move rfl) ?_
   refine TL.v (Val.loadAgg 6 rfl ag39 sz39 rfl rfl rfl) ?_
   refine TL.v (Val.move rfl) ?_
   refine TL.v (Val.loadAgg 5 rfl ag98 sz98 rfl rfl rfl) ?_
   refine TL.v (Val.move rfl) ?_
   refine TL.v (Val.move rfl) ?_
   refine TL.d (Does.callF go38 rfl (check_who gb rb lb nb cn ob co sn so c N asked ref ones nws ols _ hN k hkN kind gen sq ep va me _ 32 cc2 ⟨((get8 tl 0 : Nat) : Int), ((get8 tl 8 : Nat) : Int)⟩ now)) ?_
   rintro _ _ ⟨rfl, rfl⟩
   refine TL.v (Val.assign rfl) ?_
   refine TL.nt ?_
   refine TC.en (E' := [(0, _), (8, _), (9, _), (10, _), (13, _)]) ?_
   refine TC.seq ?_
   refine TC.sr ?_
   refine TL.v (Val.move rfl) ?_
   refine TL.v (Val.neqI rfl rfl) ?_
   refine TL.nt ?_
   refine TC.condP rfl (fun c3 => ?_) (fun c3 => ?_)
   ·
    refine TC.sr ?_
    refine TL.v (Val.move rfl) ?_
    refine TL.v (Val.nilCheck rfl) ?_
    refine TL.v (Val.fieldAddr rfl fl90_4 sz88 rfl) ?_
    refine TL.d (Does.callF go39 rfl (aAdd_fn gb 29 0 _ _ ref 1 (ref + 1) _ rfl rfl (w_i64 (by omega) (by omega)))) ?_
    rintro _ _ ⟨rfl, rfl⟩
    refine TL.nt ?_
    refine TC.sr ?_
    refine TL.v (Val.buildS pl39 ze39 rfl rfl) ?_
    refine TL.v (Val.move rfl) ?_
    refine TL.d (Does.store (i := 8) rfl rfl rfl sz39 rfl rfl (by first | exact Nat.le_of_ble_eq_true rfl | decide | omega) rfl rfl) ?_
    rintro _ _ ⟨rfl, rfl⟩
    refine TL.v (Val.assign rfl) ?_
    refine TL.nt ?_
    refine TC.en (E' := [(8, _), (9, _), (10, _)]) ?_
    refine TC.r2 (hM := (fun w h => (ro_mv (A := [_, _, _, _, _]) (L := [_, _, _, _]) w h).drop.drop.drop.drop)) (M' := (gateO gb c rb (some ⟨nb, 0, none⟩) N cn (some ⟨ob, 0, none⟩) N co (ref + 1) :: ringO rb c.seed lb N c.grace asked :: (lb, row 127 (ones.flatMap On.cs)) :: (nb, row 62 (nws.map pp ++ sn)) :: (ob, row 62 (ols.map pp ++ so)) :: T)) (fn := Tryz.f10) (fun _ _ h => h) rfl (RV.agg (i := 8) rfl ag39 sz39 rfl rfl rfl) (RV.tmp rfl) ?_
    exact ⟨rfl, rfl⟩
   ·
    (exfalso; simp at c3)
  ·
   exact absurd rfl c2

/-- (*quorumite/verify.Gate).Check -/
theorem Check_rot (gb rb lb nb cn ob co : Nat) (sn so : List Value) (c : Cf) (N : Nat) (asked ref : Int) (ones : List On) (nws ols : List Nat) (T : Hp) (hN : c.n = N) (h1 : ones.length = N) (h2 : nws.length = N) (h3 : ols.length = N) (hgr : 1 ≤ c.grace ∧ c.grace ≤ 100) (has : 0 ≤ asked ∧ asked ≤ 90000) (k : Nat) (x : On) (hx : ones[k]? = some x) (hxb : 0 ≤ x.gen ∧ x.gen ≤ 60000) (gen sq ep va me : Int) (hgen : -1000000 ≤ gen ∧ gen ≤ 1000000) (hk2 : gen - 1 ≠ x.gen) (now : Int) (hm : mayM ⟨2, (k : Nat), gen, sq, ep, va, me⟩ = true) (href : 0 ≤ ref ∧ ref ≤ 100000) (tl : List UInt8) (A : Option Addr) (cc : Nat) (hA : RdS T A (bv (putM ⟨2, (k : Nat), gen, sq, ep, va, me⟩ ++ tl))) (hcc : 48 ≤ cc) (htl : tl.length = 16)  : FnC Tryz.prog 10 #[.pointer (some ⟨gb, 0, none⟩), .slice A 48 cc, .int .i64 now, .nilFunc] (gateO gb c rb (some ⟨nb, 0, none⟩) N cn (some ⟨ob, 0, none⟩) N co ref :: ringO rb c.seed lb N c.grace asked :: (lb, row 127 (ones.flatMap On.cs)) :: (nb, row 62 (nws.map pp ++ sn)) :: (ob, row 62 (ols.map pp ++ so)) :: T) (fun v M' => v = .tuple #[.agg #[.int .i64 0, .int .i64 0, .int .i64 0, .int .i64 0, .int .i64 0, .int .i64 0, .int .i64 0], .int .i64 4] ∧ M' = (gateO gb c rb (some ⟨nb, 0, none⟩) N cn (some ⟨ob, 0, none⟩) N co (ref + 1) :: ringO rb c.seed lb N c.grace asked :: (lb, row 127 (ones.flatMap On.cs)) :: (nb, row 62 (nws.map pp ++ sn)) :: (ob, row 62 (ols.map pp ++ so)) :: T)) := by
 refine FnC.intro Tryz.func10 rfl 42 rfl (by simp) (fun z => ?_)
 refine TC.en (E' := [(0, _), (1, _), (2, _), (3, _)]) ?_
 refine TC.sr ?_
 refine TL.d (Does.alloc ze39 rfl) ?_
 rintro _ _ ⟨b1, rfl, rfl⟩
 refine TL.v (Val.assign rfl) ?_
 refine TL.nt ?_
 refine TC.seq ?_
 refine TC.sr ?_
 refine TL.v (Val.move rfl) ?_
 refine TL.v (Val.eqlNil rfl rfl pt28) ?_
 refine TL.nt ?_
 refine TC.cond rfl (fun c1 => ?_) (fun c1 => ?_)
 ·
  (exfalso; simp at c1)
 ·
  refine TC.skip ?_
  refine AtX.then ?_
  refine TC.sr ?_
  refine TL.v (Val.move rfl) ?_
  refine TL.d (Does.callF go37 rfl (Split_fn ⟨2, (k : Nat), gen, sq, ep, va, me⟩ tl A 48 cc _ ((((((hA.cons _).cons _).cons _).cons _).cons _).cons _) rfl hcc htl hm)) ?_
  rintro _ _ ⟨σ, rfl, hokσ, rfl⟩
  obtain ⟨bc, cc2, spc, rfl, hcc2⟩ := hokσ.some (by omega)
  refine TL.v (Val.move rfl) ?_
  refine TL.v (Val.extract rfl rfl) ?_
  refine TL.v (Val.extract rfl rfl) ?_
  refine TL.v (Val.extract rfl rfl) ?_
  refine TL.v (Val.extract rfl rfl) ?_
  refine TL.d (Does.alloc ze39 rfl) ?_
  rintro _ _ ⟨bM, rfl, rfl⟩
  refine TL.d (Does.alloc ze98 rfl) ?_
  rintro _ _ ⟨bT_, rfl, rfl⟩
  refine TL.d (Does.store (i := 1) rfl rfl rfl sz39 rfl rfl (by first | exact Nat.le_of_ble_eq_true rfl | decide | omega) rfl rfl) ?_
  rintro _ _ ⟨rfl, rfl⟩
  refine TL.v (Val.assign rfl) ?_
  refine TL.d (Does.store (i := 0) rfl rfl rfl sz98 rfl rfl (by first | exact Nat.le_of_ble_eq_true rfl | decide | omega) rfl rfl) ?_
  rintro _ _ ⟨rfl, rfl⟩
  refine TL.v (Val.assign rfl) ?_
  refine TL.nt ?_
  refine TC.en (E' := [(0, _), (2, _), (3, _), (8, _), (9, _), (10, _), (11, _), (12, _), (13, _)]) ?_
  refine TC.seq ?_
  refine TC.seq ?_
  refine TC.heap (M' := (gateO gb c rb (some ⟨nb, 0, none⟩) N cn (some ⟨ob, 0, none⟩) N co ref :: ringO rb c.seed lb N c.grace asked :: (lb, row 127 (ones.flatMap On.cs)) :: (nb, row 62 (nws.map pp ++ sn)) :: (ob, row 62 (ols.map pp ++ so)) :: ((bT_, .cells #[.int .u64 ((get8 tl 0 : Nat) : Int), .int .u64 ((get8 tl 8 : Nat) : Int)] 98 (0, 0)) :: (bM, .cells #[.int .i64 2, .int .i64 ((k : Nat) : Int), .int .i64 gen, .int .i64 sq, .int .i64 ep, .int .i64 va, .int .i64 me] 39 (0, 0)) :: (bc, row 5 (bv (putM ⟨2, (k : Nat), gen, sq, ep, va, me⟩) ++ spc)) :: (b1, .cells #[.int .i64 0, .int .i64 0, .int .i64 0, .int .i64 0, .int .i64 0, .int .i64 0, .int .i64 0] 39 (0, 0)) :: T))) (fun w h => ro_mv (A := [_, _, _, _]) (L := [_, _, _, _, _]) w h) ?_
  refine TC.region ?_
  refine TL.v (Val.move rfl) ?_
  refine TL.v (Val.eqlI rfl rfl) ?_
  refine TL.nt ?_
  refine TC.condP rfl (fun c2 => ?_) (fun c2 => ?_)
  ·
   refine TC.region ?_
   refine TL.v (Val.move rfl) ?_
   refine TL.v (Val.loadAgg 6 rfl ag39 sz39 rfl rfl rfl) ?_
   refine TL.v (Val.move rfl) ?_
   refine TL.v (Val.loadAgg 5 rfl ag98 sz98 rfl rfl rfl) ?_
   refine TL.v (Val.move rfl) ?_
   refine TL.v (Val.move rfl) ?_
   refine TL.d (Does.callF go38 rfl (check_rot gb rb lb nb cn ob co sn so c N asked ref ones nws ols _ hN h1 h2 h3 hgr has k x hx hxb gen sq ep va me hgen hk2 _ 32 cc2 ⟨((get8 tl 0 : Nat) : Int), ((get8 tl 8 : Nat) : Int)⟩ now)) ?_
   rintro _ _ ⟨rfl, rfl⟩
   refine TL.v (Val.assign rfl) ?_
   refine TL.nt ?_
   refine TC.en (E' := [(0, _), (8, _), (9, _), (10, _), (13, _)]) ?_
   refine TC.seq ?_
   refine TC.sr ?_
   refine TL.v (Val.move rfl) ?_
   refine TL.v (Val.neqI rfl rfl) ?_
   refine TL.nt ?_
   refine TC.condP rfl (fun c3 => ?_) (fun c3 => ?_)
   ·
    refine TC.sr ?_
    refine TL.v (Val.move rfl) ?_
    refine TL.v (Val.nilCheck rfl) ?_
    refine TL.v (Val.fieldAddr rfl fl90_4 sz88 rfl) ?_
    refine TL.d (Does.callF go39 rfl (aAdd_fn gb 29 0 _ _ ref 1 (ref + 1) _ rfl rfl (w_i64 (by omega) (by omega)))) ?_
    rintro _ _ ⟨rfl, rfl⟩
    refine TL.nt ?_
    refine TC.sr ?_
    refine TL.v (Val.buildS pl39 ze39 rfl rfl) ?_
    refine TL.v (Val.move rfl) ?_
    refine TL.d (Does.store (i := 8) rfl rfl rfl sz39 rfl rfl (by first | exact Nat.le_of_ble_eq_true rfl | decide | omega) rfl rfl) ?_
    rintro _ _ ⟨rfl, rfl⟩
    refine TL.v (Val.assign rfl) ?_
    refine TL.nt ?_
    refine TC.en (E' := [(8, _), (9, _), (10, _)]) ?_
    refine TC.r2 (hM := (fun w h => (ro_mv (A := [_, _, _, _, _]) (L := [_, _, _, _]) w h).drop.drop.drop.drop)) (M' := (gateO gb c rb (some ⟨nb, 0, none⟩) N cn (some ⟨ob, 0, none⟩) N co (ref + 1) :: ringO rb c.seed lb N c.grace asked :: (lb, row 127 (ones.flatMap On.cs)) :: (nb, row 62 (nws.map pp ++ sn)) :: (ob, row 62 (ols.map pp ++ so)) :: T)) (fn := Tryz.f10) (fun _ _ h => h) rfl (RV.agg (i := 8) rfl ag39 sz39 rfl rfl rfl) (RV.tmp rfl) ?_
    exact ⟨rfl, rfl⟩
   ·
    (exfalso; simp at c3)
  ·
   exact absurd rfl c2

end Go.Proofs.YtphoapajlcaoeaaGreat
/- walks -/
set_option linter.unusedVariables false
set_option linter.unusedSimpArgs false
set_option maxRecDepth 100000
set_option maxHeartbeats 4000000
namespace Go.Proofs.YtphoapajlcaoeaaGreat
open Go Go.X
/-- quorumite/quorumiteref1.PutMsg -/
theorem refPutM_yes (m : Ms) (M : Hp) (hm : mayM m = true) : FnC Tryz.prog 48 #[.agg #[.int .i64 m.kind, .int .i64 m.who, .int .i64 m.gen, .int .i64 m.seq, .int .i64 m.epoch, .int .i64 m.value, .int .i64 m.metric]] M (fun v M' => v = .tuple #[.string (ofL (putM m)), .int .i64 0] ∧ M = M') := by
 refine FnC.intro Tryz.func48 rfl 39 rfl (by simp) (fun z => ?_)
 refine TC.en (E' := [(0, _)]) ?_
 refine TC.sr ?_
 refine TL.d (Does.box rfl rfl) ?_
 rintro _ _ ⟨b1, rfl, rfl⟩
 refine TL.v (Val.assign rfl) ?_
 refine TL.v (Val.assign rfl) ?_
 refine TL.nt ?_
 refine TC.seq ?_
 refine TC.sr ?_
 refine TL.v (Val.loadAgg 0 rfl ag39 sz39 rfl rfl rfl) ?_
 refine TL.d (Does.callF go58 rfl (refMay_fn m _)) ?_
 rintro _ _ ⟨g1, rfl, hg1_, rfl⟩
 refine TL.v (Val.not rfl) ?_
 refine TL.nt ?_
 refine TC.condB rfl (fun c1 => ?_) (fun c1 => ?_)
 ·
  (rw [hg1_, hm] at c1; cases c1)
 ·
  refine TC.skip ?_
  refine AtX.then ?_
  refine TC.join (ι := Unit) (fun _ => [(2, .string (ofL (putM m))), (3, .int .i64 0)]) (fun _ => M) (fun _ => True) ?_ ?_
  ·
   refine TC.drawL ((b1, .cells #[.int .i64 m.kind, .int .i64 m.who, .int .i64 m.gen, .int .i64 m.seq, .int .i64 m.epoch, .int .i64 m.value, .int .i64 m.metric] 39 (0, 0)) :: M) mixed 34 ?_
   refine TA.tk 0 1 rfl rfl rfl (Val.fieldAddr rfl fl39_0 sz3 rfl) ?_ (hro := ro_s)
   refine TA.tk 1 3 rfl rfl rfl (Val.load 0 rfl ag3 rfl rfl) ?_ (hro := ro_s)
   refine TA.tk 2 7 rfl rfl rfl (Val.convI rfl iu3 in5 w_b8) ?_ (hro := ro_s)
   refine TA.tk 3 15 rfl rfl rfl (Val.fieldAddr rfl fl39_1 sz3 rfl) ?_ (hro := ro_s)
   refine TA.tk 4 31 rfl rfl rfl (Val.load 0 rfl ag3 rfl rfl) ?_ (hro := ro_s)
   refine TA.tk 5 63 rfl rfl rfl (Val.convI rfl iu3 in5 w_b8) ?_ (hro := ro_s)
   refine TA.tk 6 127 rfl rfl rfl (Val.fieldAddr rfl fl39_6 sz3 rfl) ?_ (hro := ro_s)
   refine TA.tk 7 255 rfl rfl rfl (Val.load 0 rfl ag3 rfl rfl) ?_ (hro := ro_s)
   refine TA.tk 8 511 rfl rfl rfl (Val.convI rfl iu3 in5 w_b8) ?_ (hro := ro_s)
   refine TA.tk 11 2559 rfl rfl rfl (Val.fieldAddr rfl fl39_2 sz3 rfl) ?_ (hro := ro_s)
   refine TA.tk 12 6655 rfl rfl rfl (Val.load 0 rfl ag3 rfl rfl) ?_ (hro := ro_s)
   refine TA.tk 13 14847 rfl rfl rfl (Val.convI rfl iu3 in24 rfl) ?_ (hro := ro_s)
   refine TA.tk 17 145919 rfl rfl rfl (Val.fieldAddr rfl fl39_3 sz2 rfl) ?_ (hro := ro_s)
   refine TA.tk 18 408063 rfl rfl rfl (Val.load 0 rfl ag2 rfl rfl) ?_ (hro := ro_s)
   refine TA.tk 19 932351 rfl rfl rfl (Val.convI rfl iu2 in24 rfl) ?_ (hro := ro_s)
   refine TA.tk 22 5126655 rfl rfl rfl (Val.fieldAddr rfl fl39_4 sz2 rfl) ?_ (hro := ro_s)
   refine TA.tk 23 13515263 rfl rfl rfl (Val.load 0 rfl ag2 rfl rfl) ?_ (hro := ro_s)
   refine TA.tk 24 30292479 rfl rfl rfl (Val.convI rfl iu2 in24 rfl) ?_ (hro := ro_s)
   refine TA.tk 27 164510207 rfl rfl rfl (Val.fieldAddr rfl fl39_5 sz2 rfl) ?_ (hro := ro_s)
   refine TA.tk 28 432945663 rfl rfl rfl (Val.load 0 rfl ag2 rfl rfl) ?_ (hro := ro_s)
   refine TA.tk 29 969816575 rfl rfl rfl (Val.convI rfl iu2 in24 rfl) ?_ (hro := ro_s)
   refine TA.two 9 14 (by kernel_rfl) ?_ ?_
   ·
    refine TO.dz 969817087 (some 16) rfl rfl rfl rfl (Does.buildSlice sl34 sz5 ze5 (by decide) (by decide) rfl rfl rfl) ?_
    rintro _ _ ⟨b3, rfl, rfl⟩
    refine ⟨ro_s, ?_⟩
    refine TA.two 10 14 (by kernel_rfl) ?_ ?_
    ·
     refine TO.dz 969818111 (some 17) rfl rfl rfl rfl (Val.does (Val.b2s (l := [1, Go.X.b8 m.kind, Go.X.b8 m.who, Go.X.b8 m.metric]) rfl us34 ui5 un9 rfl (.some (Rd.get (i := 0) rfl rfl)))) ?_
     rintro _ _ ⟨rfl, rfl⟩
     refine ⟨ro_s, ?_⟩
     refine TA.one 14 (by kernel_rfl) ?_
     refine TO.dz 969834495 (some 21) rfl rfl rfl rfl (Does.callF go80 rfl (refPut_fn _ _)) ?_
     rintro _ _ ⟨rfl, rfl⟩
     refine ⟨ro_s, ?_⟩
     refine TA.tk 15 969867263 rfl rfl rfl (Val.sliceL (i := 0) (j := 4) rfl un9 rfl rfl rfl rfl (by omega) (by simp)) ?_ (hro := ro_s)
     refine TA.tk 16 969932799 rfl rfl rfl (Val.addL rfl rfl (by first | omega | (simp <;> omega))) ?_ (hro := ro_s)
     refine TA.one 20 (by kernel_rfl) ?_
     refine TO.dz 970981375 (some 27) rfl rfl rfl rfl (Does.callF go80 rfl (refPut_fn _ _)) ?_
     rintro _ _ ⟨rfl, rfl⟩
     refine ⟨ro_s, ?_⟩
     refine TA.tk 21 973078527 rfl rfl rfl (Val.addL rfl rfl (by first | omega | (simp <;> omega))) ?_ (hro := ro_s)
     refine TA.one 25 (by kernel_rfl) ?_
     refine TO.dz 1006632959 (some 32) rfl rfl rfl rfl (Does.callF go80 rfl (refPut_fn _ _)) ?_
     rintro _ _ ⟨rfl, rfl⟩
     refine ⟨ro_s, ?_⟩
     refine TA.tk 26 1073741823 rfl rfl rfl (Val.addL rfl rfl (by first | omega | (simp <;> omega))) ?_ (hro := ro_s)
     refine TA.one 30 (by kernel_rfl) ?_
     refine TO.dz 2147483647 (some 37) rfl rfl rfl rfl (Does.callF go80 rfl (refPut_fn _ _)) ?_
     rintro _ _ ⟨rfl, rfl⟩
     refine ⟨ro_s, ?_⟩
     refine TA.tk 31 4294967295 rfl rfl rfl (Val.addL rfl rfl (by first | omega | (simp <;> omega))) ?_ (hro := ro_s)
     refine TA.tk 32 8589934591 rfl rfl rfl (Val.assign rfl) ?_ (hro := ro_s)
     refine TA.tk 33 17179869183 rfl rfl rfl (Val.assign rfl) ?_ (hro := ro_s)
     refine TA.done (by kernel_rfl) ?_
     refine AtX.join () ?_ (Sub.cons rfl (Sub.cons rfl (Sub.nil _))) ro_s
     trivial
    ·
     refine TO.dz 969833471 (some 21) rfl rfl rfl rfl (Does.callF go80 rfl (refPut_fn _ _)) ?_
     rintro _ _ ⟨rfl, rfl⟩
     refine ⟨ro_s, ?_⟩
     refine TA.tk 15 969866239 rfl rfl rfl (Val.sliceL (i := 0) (j := 4) rfl un9 rfl rfl rfl rfl (by omega) (by simp)) ?_ (hro := ro_s)
     refine TA.two 10 20 (by kernel_rfl) ?_ ?_
     ·
      refine TO.dz 969867263 (some 17) rfl rfl rfl rfl (Val.does (Val.b2s (l := [1, Go.X.b8 m.kind, Go.X.b8 m.who, Go.X.b8 m.metric]) rfl us34 ui5 un9 rfl (.some (Rd.get (i := 0) rfl rfl)))) ?_
      rintro _ _ ⟨rfl, rfl⟩
      refine ⟨ro_s, ?_⟩
      refine TA.tk 16 969932799 rfl rfl rfl (Val.addL rfl rfl (by first | omega | (simp <;> omega))) ?_ (hro := ro_s)
      refine TA.one 20 (by kernel_rfl) ?_
      refine TO.dz 970981375 (some 27) rfl rfl rfl rfl (Does.callF go80 rfl (refPut_fn _ _)) ?_
      rintro _ _ ⟨rfl, rfl⟩
      refine ⟨ro_s, ?_⟩
      refine TA.tk 21 973078527 rfl rfl rfl (Val.addL rfl rfl (by first | omega | (simp <;> omega))) ?_ (hro := ro_s)
      refine TA.one 25 (by kernel_rfl) ?_
      refine TO.dz 1006632959 (some 32) rfl rfl rfl rfl (Does.callF go80 rfl (refPut_fn _ _)) ?_
      rintro _ _ ⟨rfl, rfl⟩
      refine ⟨ro_s, ?_⟩
      refine TA.tk 26 1073741823 rfl rfl rfl (Val.addL rfl rfl (by first | omega | (simp <;> omega))) ?_ (hro := ro_s)
      refine TA.one 30 (by kernel_rfl) ?_
      refine TO.dz 2147483647 (some 37) rfl rfl rfl rfl (Does.callF go80 rfl (refPut_fn _ _)) ?_
      rintro _ _ ⟨rfl, rfl⟩
      refine ⟨ro_s, ?_⟩
      refine TA.tk 31 4294967295 rfl rfl rfl (Val.addL rfl rfl (by first | omega | (simp <;> omega))) ?_ (hro := ro_s)
      refine TA.tk 32 8589934591 rfl rfl rfl (Val.assign rfl) ?_ (hro := ro_s)
      refine TA.tk 33 17179869183 rfl rfl rfl (Val.assign rfl) ?_ (hro := ro_s)
      refine TA.done (by kernel_rfl) ?_
      refine AtX.join () ?_ (Sub.cons rfl (Sub.cons rfl (Sub.nil _))) ro_s
      trivial
     ·
      refine TO.dz 970914815 (some 27) rfl rfl rfl rfl (Does.callF go80 rfl (refPut_fn _ _)) ?_
      rintro _ _ ⟨rfl, rfl⟩
      refine ⟨ro_s, ?_⟩
      refine TA.two 10 25 (by kernel_rfl) ?_ ?_
      ·
       refine TO.dz 970915839 (some 17) rfl rfl rfl rfl (Val.does (Val.b2s (l := [1, Go.X.b8 m.kind, Go.X.b8 m.who, Go.X.b8 m.metric]) rfl us34 ui5 un9 rfl (.some (Rd.get (i := 0) rfl rfl)))) ?_
       rintro _ _ ⟨rfl, rfl⟩
       refine ⟨ro_s, ?_⟩
       refine TA.tk 16 970981375 rfl rfl rfl (Val.addL rfl rfl (by first | omega | (simp <;> omega))) ?_ (hro := ro_s)
       refine TA.tk 21 973078527 rfl rfl rfl (Val.addL rfl rfl (by first | omega | (simp <;> omega))) ?_ (hro := ro_s)
       refine TA.one 25 (by kernel_rfl) ?_
       refine TO.dz 1006632959 (some 32) rfl rfl rfl rfl (Does.callF go80 rfl (refPut_fn _ _)) ?_
       rintro _ _ ⟨rfl, rfl⟩
       refine ⟨ro_s, ?_⟩
       refine TA.tk 26 1073741823 rfl rfl rfl (Val.addL rfl rfl (by first | omega | (simp <;> omega))) ?_ (hro := ro_s)
       refine TA.one 30 (by kernel_rfl) ?_
       refine TO.dz 2147483647 (some 37) rfl rfl rfl rfl (Does.callF go80 rfl (refPut_fn _ _)) ?_
       rintro _ _ ⟨rfl, rfl⟩
       refine ⟨ro_s, ?_⟩
       refine TA.tk 31 4294967295 rfl rfl rfl (Val.addL rfl rfl (by first | omega | (simp <;> omega))) ?_ (hro := ro_s)
       refine TA.tk 32 8589934591 rfl rfl rfl (Val.assign rfl) ?_ (hro := ro_s)
       refine TA.tk 33 17179869183 rfl rfl rfl (Val.assign rfl) ?_ (hro := ro_s)
       refine TA.done (by kernel_rfl) ?_
       refine AtX.join () ?_ (Sub.cons rfl (Sub.cons rfl (Sub.nil _))) ro_s
       trivial
      ·
       refine TO.dz 1004469247 (some 32) rfl rfl rfl rfl (Does.callF go80 rfl (refPut_fn _ _)) ?_
       rintro _ _ ⟨rfl, rfl⟩
       refine ⟨ro_s, ?_⟩
       refine TA.two 10 30 (by kernel_rfl) ?_ ?_
       ·
        refine TO.dz 1004470271 (some 17) rfl rfl rfl rfl (Val.does (Val.b2s (l := [1, Go.X.b8 m.kind, Go.X.b8 m.who, Go.X.b8 m.metric]) rfl us34 ui5 un9 rfl (.some (Rd.get (i := 0) rfl rfl)))) ?_
        rintro _ _ ⟨rfl, rfl⟩
        refine ⟨ro_s, ?_⟩
        refine TA.tk 16 1004535807 rfl rfl rfl (Val.addL rfl rfl (by first | omega | (simp <;> omega))) ?_ (hro := ro_s)
        refine TA.tk 21 1006632959 rfl rfl rfl (Val.addL rfl rfl (by first | omega | (simp <;> omega))) ?_ (hro := ro_s)
        refine TA.tk 26 1073741823 rfl rfl rfl (Val.addL rfl rfl (by first | omega | (simp <;> omega))) ?_ (hro := ro_s)
        refine TA.one 30 (by kernel_rfl) ?_
        refine TO.dz 2147483647 (some 37) rfl rfl rfl rfl (Does.callF go80 rfl (refPut_fn _ _)) ?_
        rintro _ _ ⟨rfl, rfl⟩
        refine ⟨ro_s, ?_⟩
        refine TA.tk 31 4294967295 rfl rfl rfl (Val.addL rfl rfl (by first | omega | (simp <;> omega))) ?_ (hro := ro_s)
        refine TA.tk 32 8589934591 rfl rfl rfl (Val.assign rfl) ?_ (hro := ro_s)
        refine TA.tk 33 17179869183 rfl rfl rfl (Val.assign rfl) ?_ (hro := ro_s)
        refine TA.done (by kernel_rfl) ?_
        refine AtX.join () ?_ (Sub.cons rfl (Sub.cons rfl (Sub.nil _))) ro_s
        trivial
       ·
        refine TO.dz 2078211071 (some 37) rfl rfl rfl rfl (Does.callF go80 rfl (refPut_fn _ _)) ?_
        rintro _ _ ⟨rfl, rfl⟩
        refine ⟨ro_s, ?_⟩
        refine TA.one 10 (by kernel_rfl) ?_
        refine TO.dz 2078212095 (some 17) rfl rfl rfl rfl (Val.does (Val.b2s (l := [1, Go.X.b8 m.kind, Go.X.b8 m.who, Go.X.b8 m.metric]) rfl us34 ui5 un9 rfl (.some (Rd.get (i := 0) rfl rfl)))) ?_
        rintro _ _ ⟨rfl, rfl⟩
        refine ⟨ro_s, ?_⟩
        refine TA.tk 16 2078277631 rfl rfl rfl (Val.addL rfl rfl (by first | omega | (simp <;> omega))) ?_ (hro := ro_s)
        refine TA.tk 21 2080374783 rfl rfl rfl (Val.addL rfl rfl (by first | omega | (simp <;> omega))) ?_ (hro := ro_s)
        refine TA.tk 26 2147483647 rfl rfl rfl (Val.addL rfl rfl (by first | omega | (simp <;> omega))) ?_ (hro := ro_s)
        refine TA.tk 31 4294967295 rfl rfl rfl (Val.addL rfl rfl (by first | omega | (simp <;> omega))) ?_ (hro := ro_s)
        refine TA.tk 32 8589934591 rfl rfl rfl (Val.assign rfl) ?_ (hro := ro_s)
        refine TA.tk 33 17179869183 rfl rfl rfl (Val.assign rfl) ?_ (hro := ro_s)
        refine TA.done (by kernel_rfl) ?_
        refine AtX.join () ?_ (Sub.cons rfl (Sub.cons rfl (Sub.nil _))) ro_s
        trivial
   ·
    refine TO.dz 969832959 (some 21) rfl rfl rfl rfl (Does.callF go80 rfl (refPut_fn _ _)) ?_
    rintro _ _ ⟨rfl, rfl⟩
    refine ⟨ro_s, ?_⟩
    refine TA.tk 15 969865727 rfl rfl rfl (Val.sliceL (i := 0) (j := 4) rfl un9 rfl rfl rfl rfl (by omega) (by simp)) ?_ (hro := ro_s)
    refine TA.two 9 20 (by kernel_rfl) ?_ ?_
    ·
     refine TO.dz 969866239 (some 16) rfl rfl rfl rfl (Does.buildSlice sl34 sz5 ze5 (by decide) (by decide) rfl rfl rfl) ?_
     rintro _ _ ⟨b19, rfl, rfl⟩
     refine ⟨ro_s, ?_⟩
     refine TA.two 10 20 (by kernel_rfl) ?_ ?_
     ·
      refine TO.dz 969867263 (some 17) rfl rfl rfl rfl (Val.does (Val.b2s (l := [1, Go.X.b8 m.kind, Go.X.b8 m.who, Go.X.b8 m.metric]) rfl us34 ui5 un9 rfl (.some (Rd.get (i := 0) rfl rfl)))) ?_
      rintro _ _ ⟨rfl, rfl⟩
      refine ⟨ro_s, ?_⟩
      refine TA.tk 16 969932799 rfl rfl rfl (Val.addL rfl rfl (by first | omega | (simp <;> omega))) ?_ (hro := ro_s)
      refine TA.one 20 (by kernel_rfl) ?_
      refine TO.dz 970981375 (some 27) rfl rfl rfl rfl (Does.callF go80 rfl (refPut_fn _ _)) ?_
      rintro _ _ ⟨rfl, rfl⟩
      refine ⟨ro_s, ?_⟩
      refine TA.tk 21 973078527 rfl rfl rfl (Val.addL rfl rfl (by first | omega | (simp <;> omega))) ?_ (hro := ro_s)
      refine TA.one 25 (by kernel_rfl) ?_
      refine TO.dz 1006632959 (some 32) rfl rfl rfl rfl (Does.callF go80 rfl (refPut_fn _ _)) ?_
      rintro _ _ ⟨rfl, rfl⟩
      refine ⟨ro_s, ?_⟩
      refine TA.tk 26 1073741823 rfl rfl rfl (Val.addL rfl rfl (by first | omega | (simp <;> omega))) ?_ (hro := ro_s)
      refine TA.one 30 (by kernel_rfl) ?_
      refine TO.dz 2147483647 (some 37) rfl rfl rfl rfl (Does.callF go80 rfl (refPut_fn _ _)) ?_
      rintro _ _ ⟨rfl, rfl⟩
      refine ⟨ro_s, ?_⟩
      refine TA.tk 31 4294967295 rfl rfl rfl (Val.addL rfl rfl (by first | omega | (simp <;> omega))) ?_ (hro := ro_s)
      refine TA.tk 32 8589934591 rfl rfl rfl (Val.assign rfl) ?_ (hro := ro_s)
      refine TA.tk 33 17179869183 rfl rfl rfl (Val.assign rfl) ?_ (hro := ro_s)
      refine TA.done (by kernel_rfl) ?_
      refine AtX.join () ?_ (Sub.cons rfl (Sub.cons rfl (Sub.nil _))) ro_s
      trivial
     ·
      refine TO.dz 970914815 (some 27) rfl rfl rfl rfl (Does.callF go80 rfl (refPut_fn _ _)) ?_
      rintro _ _ ⟨rfl, rfl⟩
      refine ⟨ro_s, ?_⟩
      refine TA.two 10 25 (by kernel_rfl) ?_ ?_
      ·
       refine TO.dz 970915839 (some 17) rfl rfl rfl rfl (Val.does (Val.b2s (l := [1, Go.X.b8 m.kind, Go.X.b8 m.who, Go.X.b8 m.metric]) rfl us34 ui5 un9 rfl (.some (Rd.get (i := 0) rfl rfl)))) ?_
       rintro _ _ ⟨rfl, rfl⟩
       refine ⟨ro_s, ?_⟩
       refine TA.tk 16 970981375 rfl rfl rfl (Val.addL rfl rfl (by first | omega | (simp <;> omega))) ?_ (hro := ro_s)
       refine TA.tk 21 973078527 rfl rfl rfl (Val.addL rfl rfl (by first | omega | (simp <;> omega))) ?_ (hro := ro_s)
       refine TA.one 25 (by kernel_rfl) ?_
       refine TO.dz 1006632959 (some 32) rfl rfl rfl rfl (Does.callF go80 rfl (refPut_fn _ _)) ?_
       rintro _ _ ⟨rfl, rfl⟩
       refine ⟨ro_s, ?_⟩
       refine TA.tk 26 1073741823 rfl rfl rfl (Val.addL rfl rfl (by first | omega | (simp <;> omega))) ?_ (hro := ro_s)
       refine TA.one 30 (by kernel_rfl) ?_
       refine TO.dz 2147483647 (some 37) rfl rfl rfl rfl (Does.callF go80 rfl (refPut_fn _ _)) ?_
       rintro _ _ ⟨rfl, rfl⟩
       refine ⟨ro_s, ?_⟩
       refine TA.tk 31 4294967295 rfl rfl rfl (Val.addL rfl rfl (by first | omega | (simp <;> omega))) ?_ (hro := ro_s)
       refine TA.tk 32 8589934591 rfl rfl rfl (Val.assign rfl) ?_ (hro := ro_s)
       refine TA.tk 33 17179869183 rfl rfl rfl (Val.assign rfl) ?_ (hro := ro_s)
       refine TA.done (by kernel_rfl) ?_
       refine AtX.join () ?_ (Sub.cons rfl (Sub.cons rfl (Sub.nil _))) ro_s
       trivial
      ·
       refine TO.dz 1004469247 (some 32) rfl rfl rfl rfl (Does.callF go80 rfl (refPut_fn _ _)) ?_
       rintro _ _ ⟨rfl, rfl⟩
       refine ⟨ro_s, ?_⟩
       refine TA.two 10 30 (by kernel_rfl) ?_ ?_
       ·
        refine TO.dz 1004470271 (some 17) rfl rfl rfl rfl (Val.does (Val.b2s (l := [1, Go.X.b8 m.kind, Go.X.b8 m.who, Go.X.b8 m.metric]) rfl us34 ui5 un9 rfl (.some (Rd.get (i := 0) rfl rfl)))) ?_
        rintro _ _ ⟨rfl, rfl⟩
        refine ⟨ro_s, ?_⟩
        refine TA.tk 16 1004535807 rfl rfl rfl (Val.addL rfl rfl (by first | omega | (simp <;> omega))) ?_ (hro := ro_s)
        refine TA.tk 21 1006632959 rfl rfl rfl (Val.addL rfl rfl (by first | omega | (simp <;> omega))) ?_ (hro := ro_s)
        refine TA.tk 26 1073741823 rfl rfl rfl (Val.addL rfl rfl (by first | omega | (simp <;> omega))) ?_ (hro := ro_s)
        refine TA.one 30 (by kernel_rfl) ?_
        refine TO.dz 2147483647 (some 37) rfl rfl rfl rfl (Does.callF go80 rfl (refPut_fn _ _)) ?_
        rintro _ _ ⟨rfl, rfl⟩
        refine ⟨ro_s, ?_⟩
        refine TA.tk 31 4294967295 rfl rfl rfl (Val.addL rfl rfl (by first | omega | (simp <;> omega))) ?_ (hro := ro_s)
        refine TA.tk 32 8589934591 rfl rfl rfl (Val.assign rfl) ?_ (hro := ro_s)
        refine TA.tk 33 17179869183 rfl rfl rfl (Val.assign rfl) ?_ (hro := ro_s)
        refine TA.done (by kernel_rfl) ?_
        refine AtX.join () ?_ (Sub.cons rfl (Sub.cons rfl (Sub.nil _))) ro_s
        trivial
       ·
        refine TO.dz 2078211071 (some 37) rfl rfl rfl rfl (Does.callF go80 rfl (refPut_fn _ _)) ?_
        rintro _ _ ⟨rfl, rfl⟩
        refine ⟨ro_s, ?_⟩
        refine TA.one 10 (by kernel_rfl) ?_
        refine TO.dz 2078212095 (some 17) rfl rfl rfl rfl (Val.does (Val.b2s (l := [1, Go.X.b8 m.kind, Go.X.b8 m.who, Go.X.b8 m.metric]) rfl us34 ui5 un9 rfl (.some (Rd.get (i := 0) rfl rfl)))) ?_
        rintro _ _ ⟨rfl, rfl⟩
        refine ⟨ro_s, ?_⟩
        refine TA.tk 16 2078277631 rfl rfl rfl (Val.addL rfl rfl (by first | omega | (simp <;> omega))) ?_ (hro := ro_s)
        refine TA.tk 21 2080374783 rfl rfl rfl (Val.addL rfl rfl (by first | omega | (simp <;> omega))) ?_ (hro := ro_s)
        refine TA.tk 26 2147483647 rfl rfl rfl (Val.addL rfl rfl (by first | omega | (simp <;> omega))) ?_ (hro := ro_s)
        refine TA.tk 31 4294967295 rfl rfl rfl (Val.addL rfl rfl (by first | omega | (simp <;> omega))) ?_ (hro := ro_s)
        refine TA.tk 32 8589934591 rfl rfl rfl (Val.assign rfl) ?_ (hro := ro_s)
        refine TA.tk 33 17179869183 rfl rfl rfl (Val.assign rfl) ?_ (hro := ro_s)
        refine TA.done (by kernel_rfl) ?_
        refine AtX.join () ?_ (Sub.cons rfl (Sub.cons rfl (Sub.nil _))) ro_s
        trivial
    ·
     refine TO.dz 970914303 (some 27) rfl rfl rfl rfl (Does.callF go80 rfl (refPut_fn _ _)) ?_
     rintro _ _ ⟨rfl, rfl⟩
     refine ⟨ro_s, ?_⟩
     refine TA.two 9 25 (by kernel_rfl) ?_ ?_
     ·
      refine TO.dz 970914815 (some 16) rfl rfl rfl rfl (Does.buildSlice sl34 sz5 ze5 (by decide) (by decide) rfl rfl rfl) ?_
      rintro _ _ ⟨b30, rfl, rfl⟩
      refine ⟨ro_s, ?_⟩
      refine TA.two 10 25 (by kernel_rfl) ?_ ?_
      ·
       refine TO.dz 970915839 (some 17) rfl rfl rfl rfl (Val.does (Val.b2s (l := [1, Go.X.b8 m.kind, Go.X.b8 m.who, Go.X.b8 m.metric]) rfl us34 ui5 un9 rfl (.some (Rd.get (i := 0) rfl rfl)))) ?_
       rintro _ _ ⟨rfl, rfl⟩
       refine ⟨ro_s, ?_⟩
       refine TA.tk 16 970981375 rfl rfl rfl (Val.addL rfl rfl (by first | omega | (simp <;> omega))) ?_ (hro := ro_s)
       refine TA.tk 21 973078527 rfl rfl rfl (Val.addL rfl rfl (by first | omega | (simp <;> omega))) ?_ (hro := ro_s)
       refine TA.one 25 (by kernel_rfl) ?_
       refine TO.dz 1006632959 (some 32) rfl rfl rfl rfl (Does.callF go80 rfl (refPut_fn _ _)) ?_
       rintro _ _ ⟨rfl, rfl⟩
       refine ⟨ro_s, ?_⟩
       refine TA.tk 26 1073741823 rfl rfl rfl (Val.addL rfl rfl (by first | omega | (simp <;> omega))) ?_ (hro := ro_s)
       refine TA.one 30 (by kernel_rfl) ?_
       refine TO.dz 2147483647 (some 37) rfl rfl rfl rfl (Does.callF go80 rfl (refPut_fn _ _)) ?_
       rintro _ _ ⟨rfl, rfl⟩
       refine ⟨ro_s, ?_⟩
       refine TA.tk 31 4294967295 rfl rfl rfl (Val.addL rfl rfl (by first | omega | (simp <;> omega))) ?_ (hro := ro_s)
       refine TA.tk 32 8589934591 rfl rfl rfl (Val.assign rfl) ?_ (hro := ro_s)
       refine TA.tk 33 17179869183 rfl rfl rfl (Val.assign rfl) ?_ (hro := ro_s)
       refine TA.done (by kernel_rfl) ?_
       refine AtX.join () ?_ (Sub.cons rfl (Sub.cons rfl (Sub.nil _))) ro_s
       trivial
      ·
       refine TO.dz 1004469247 (some 32) rfl rfl rfl rfl (Does.callF go80 rfl (refPut_fn _ _)) ?_
       rintro _ _ ⟨rfl, rfl⟩
       refine ⟨ro_s, ?_⟩
       refine TA.two 10 30 (by kernel_rfl) ?_ ?_
       ·
        refine TO.dz 1004470271 (some 17) rfl rfl rfl rfl (Val.does (Val.b2s (l := [1, Go.X.b8 m.kind, Go.X.b8 m.who, Go.X.b8 m.metric]) rfl us34 ui5 un9 rfl (.some (Rd.get (i := 0) rfl rfl)))) ?_
        rintro _ _ ⟨rfl, rfl⟩
        refine ⟨ro_s, ?_⟩
        refine TA.tk 16 1004535807 rfl rfl rfl (Val.addL rfl rfl (by first | omega | (simp <;> omega))) ?_ (hro := ro_s)
        refine TA.tk 21 1006632959 rfl rfl rfl (Val.addL rfl rfl (by first | omega | (simp <;> omega))) ?_ (hro := ro_s)
        refine TA.tk 26 1073741823 rfl rfl rfl (Val.addL rfl rfl (by first | omega | (simp <;> omega))) ?_ (hro := ro_s)
        refine TA.one 30 (by kernel_rfl) ?_
        refine TO.dz 2147483647 (some 37) rfl rfl rfl rfl (Does.callF go80 rfl (refPut_fn _ _)) ?_
        rintro _ _ ⟨rfl, rfl⟩
        refine ⟨ro_s, ?_⟩
        refine TA.tk 31 4294967295 rfl rfl rfl (Val.addL rfl rfl (by first | omega | (simp <;> omega))) ?_ (hro := ro_s)
        refine TA.tk 32 8589934591 rfl rfl rfl (Val.assign rfl) ?_ (hro := ro_s)
        refine TA.tk 33 17179869183 rfl rfl rfl (Val.assign rfl) ?_ (hro := ro_s)
        refine TA.done (by kernel_rfl) ?_
        refine AtX.join () ?_ (Sub.cons rfl (Sub.cons rfl (Sub.nil _))) ro_s
        trivial
       ·
        refine TO.dz 2078211071 (some 37) rfl rfl rfl rfl (Does.callF go80 rfl (refPut_fn _ _)) ?_
        rintro _ _ ⟨rfl, rfl⟩
        refine ⟨ro_s, ?_⟩
        refine TA.one 10 (by kernel_rfl) ?_
        refine TO.dz 2078212095 (some 17) rfl rfl rfl rfl (Val.does (Val.b2s (l := [1, Go.X.b8 m.kind, Go.X.b8 m.who, Go.X.b8 m.metric]) rfl us34 ui5 un9 rfl (.some (Rd.get (i := 0) rfl rfl)))) ?_
        rintro _ _ ⟨rfl, rfl⟩
        refine ⟨ro_s, ?_⟩
        refine TA.tk 16 2078277631 rfl rfl rfl (Val.addL rfl rfl (by first | omega | (simp <;> omega))) ?_ (hro := ro_s)
        refine TA.tk 21 2080374783 rfl rfl rfl (Val.addL rfl rfl (by first | omega | (simp <;> omega))) ?_ (hro := ro_s)
        refine TA.tk 26 2147483647 rfl rfl rfl (Val.addL rfl rfl (by first | omega | (simp <;> omega))) ?_ (hro := ro_s)
        refine TA.tk 31 4294967295 rfl rfl rfl (Val.addL rfl rfl (by first | omega | (simp <;> omega))) ?_ (hro := ro_s)
        refine TA.tk 32 8589934591 rfl rfl rfl (Val.assign rfl) ?_ (hro := ro_s)
        refine TA.tk 33 17179869183 rfl rfl rfl (Val.assign rfl) ?_ (hro := ro_s)
        refine TA.done (by kernel_rfl) ?_
        refine AtX.join () ?_ (Sub.cons rfl (Sub.cons rfl (Sub.nil _))) ro_s
        trivial
     ·
      refine TO.dz 1004468735 (some 32) rfl rfl rfl rfl (Does.callF go80 rfl (refPut_fn _ _)) ?_
      rintro _ _ ⟨rfl, rfl⟩
      refine ⟨ro_s, ?_⟩
      refine TA.two 9 30 (by kernel_rfl) ?_ ?_
      ·
       refine TO.dz 1004469247 (some 16) rfl rfl rfl rfl (Does.buildSlice sl34 sz5 ze5 (by decide) (by decide) rfl rfl rfl) ?_
       rintro _ _ ⟨b37, rfl, rfl⟩
       refine ⟨ro_s, ?_⟩
       refine TA.two 10 30 (by kernel_rfl) ?_ ?_
       ·
        refine TO.dz 1004470271 (some 17) rfl rfl rfl rfl (Val.does (Val.b2s (l := [1, Go.X.b8 m.kind, Go.X.b8 m.who, Go.X.b8 m.metric]) rfl us34 ui5 un9 rfl (.some (Rd.get (i := 0) rfl rfl)))) ?_
        rintro _ _ ⟨rfl, rfl⟩
        refine ⟨ro_s, ?_⟩
        refine TA.tk 16 1004535807 rfl rfl rfl (Val.addL rfl rfl (by first | omega | (simp <;> omega))) ?_ (hro := ro_s)
        refine TA.tk 21 1006632959 rfl rfl rfl (Val.addL rfl rfl (by first | omega | (simp <;> omega))) ?_ (hro := ro_s)
        refine TA.tk 26 1073741823 rfl rfl rfl (Val.addL rfl rfl (by first | omega | (simp <;> omega))) ?_ (hro := ro_s)
        refine TA.one 30 (by kernel_rfl) ?_
        refine TO.dz 2147483647 (some 37) rfl rfl rfl rfl (Does.callF go80 rfl (refPut_fn _ _)) ?_
        rintro _ _ ⟨rfl, rfl⟩
        refine ⟨ro_s, ?_⟩
        refine TA.tk 31 4294967295 rfl rfl rfl (Val.addL rfl rfl (by first | omega | (simp <;> omega))) ?_ (hro := ro_s)
        refine TA.tk 32 8589934591 rfl rfl rfl (Val.assign rfl) ?_ (hro := ro_s)
        refine TA.tk 33 17179869183 rfl rfl rfl (Val.assign rfl) ?_ (hro := ro_s)
        refine TA.done (by kernel_rfl) ?_
        refine AtX.join () ?_ (Sub.cons rfl (Sub.cons rfl (Sub.nil _))) ro_s
        trivial
       ·
        refine TO.dz 2078211071 (some 37) rfl rfl rfl rfl (Does.callF go80 rfl (refPut_fn _ _)) ?_
        rintro _ _ ⟨rfl, rfl⟩
        refine ⟨ro_s, ?_⟩
        refine TA.one 10 (by kernel_rfl) ?_
        refine TO.dz 2078212095 (some 17) rfl rfl rfl rfl (Val.does (Val.b2s (l := [1, Go.X.b8 m.kind, Go.X.b8 m.who, Go.X.b8 m.metric]) rfl us34 ui5 un9 rfl (.some (Rd.get (i := 0) rfl rfl)))) ?_
        rintro _ _ ⟨rfl, rfl⟩
        refine ⟨ro_s, ?_⟩
        refine TA.tk 16 2078277631 rfl rfl rfl (Val.addL rfl rfl (by first | omega | (simp <;> omega))) ?_ (hro := ro_s)
        refine TA.tk 21 2080374783 rfl rfl rfl (Val.addL rfl rfl (by first | omega | (simp <;> omega))) ?_ (hro := ro_s)
        refine TA.tk 26 2147483647 rfl rfl rfl (Val.addL rfl rfl (by first | omega | (simp <;> omega))) ?_ (hro := ro_s)
        refine TA.tk 31 4294967295 rfl rfl rfl (Val.addL rfl rfl (by first | omega | (simp <;> omega))) ?_ (hro := ro_s)
        refine TA.tk 32 8589934591 rfl rfl rfl (Val.assign rfl) ?_ (hro := ro_s)
        refine TA.tk 33 17179869183 rfl rfl rfl (Val.assign rfl) ?_ (hro := ro_s)
        refine TA.done (by kernel_rfl) ?_
        refine AtX.join () ?_ (Sub.cons rfl (Sub.cons rfl (Sub.nil _))) ro_s
        trivial
      ·
       refine TO.dz 2078210559 (some 37) rfl rfl rfl rfl (Does.callF go80 rfl (refPut_fn _ _)) ?_
       rintro _ _ ⟨rfl, rfl⟩
       refine ⟨ro_s, ?_⟩
       refine TA.one 9 (by kernel_rfl) ?_
       refine TO.dz 2078211071 (some 16) rfl rfl rfl rfl (Does.buildSlice sl34 sz5 ze5 (by decide) (by decide) rfl rfl rfl) ?_
       rintro _ _ ⟨b41, rfl, rfl⟩
       refine ⟨ro_s, ?_⟩
       refine TA.one 10 (by kernel_rfl) ?_
       refine TO.dz 2078212095 (some 17) rfl rfl rfl rfl (Val.does (Val.b2s (l := [1, Go.X.b8 m.kind, Go.X.b8 m.who, Go.X.b8 m.metric]) rfl us34 ui5 un9 rfl (.some (Rd.get (i := 0) rfl rfl)))) ?_
       rintro _ _ ⟨rfl, rfl⟩
       refine ⟨ro_s, ?_⟩
       refine TA.tk 16 2078277631 rfl rfl rfl (Val.addL rfl rfl (by first | omega | (simp <;> omega))) ?_ (hro := ro_s)
       refine TA.tk 21 2080374783 rfl rfl rfl (Val.addL rfl rfl (by first | omega | (simp <;> omega))) ?_ (hro := ro_s)
       refine TA.tk 26 2147483647 rfl rfl rfl (Val.addL rfl rfl (by first | omega | (simp <;> omega))) ?_ (hro := ro_s)
       refine TA.tk 31 4294967295 rfl rfl rfl (Val.addL rfl rfl (by first | omega | (simp <;> omega))) ?_ (hro := ro_s)
       refine TA.tk 32 8589934591 rfl rfl rfl (Val.assign rfl) ?_ (hro := ro_s)
       refine TA.tk 33 17179869183 rfl rfl rfl (Val.assign rfl) ?_ (hro := ro_s)
       refine TA.done (by kernel_rfl) ?_
       refine AtX.join () ?_ (Sub.cons rfl (Sub.cons rfl (Sub.nil _))) ro_s
       trivial
  ·
   intro _ _
   refine TC.r2 (M' := M) (fn := Tryz.f48) (fun _ _ h => h) rfl (RV.tmp rfl) (RV.tmp rfl) ?_
   exact ⟨rfl, rfl⟩

/-- quorumite/quorumiteref1.PutMsg -/
theorem refPutM_no (m : Ms) (M : Hp) (hm : mayM m = false) : FnC Tryz.prog 48 #[.agg #[.int .i64 m.kind, .int .i64 m.who, .int .i64 m.gen, .int .i64 m.seq, .int .i64 m.epoch, .int .i64 m.value, .int .i64 m.metric]] M (fun v M' => v = .tuple #[.string (ofL []), .int .i64 1] ∧ M = M') := by
 refine FnC.intro Tryz.func48 rfl 39 rfl (by simp) (fun z => ?_)
 refine TC.en (E' := [(0, _)]) ?_
 refine TC.sr ?_
 refine TL.d (Does.box rfl rfl) ?_
 rintro _ _ ⟨b1, rfl, rfl⟩
 refine TL.v (Val.assign rfl) ?_
 refine TL.v (Val.assign rfl) ?_
 refine TL.nt ?_
 refine TC.seq ?_
 refine TC.sr ?_
 refine TL.v (Val.loadAgg 0 rfl ag39 sz39 rfl rfl rfl) ?_
 refine TL.d (Does.callF go58 rfl (refMay_fn m _)) ?_
 rintro _ _ ⟨g1, rfl, hg1_, rfl⟩
 refine TL.v (Val.not rfl) ?_
 refine TL.nt ?_
 refine TC.condB rfl (fun c1 => ?_) (fun c1 => ?_)
 ·
  refine TC.sr ?_
  refine TL.v (Val.assign rfl) ?_
  refine TL.v (Val.assign rfl) ?_
  refine TL.nt ?_
  refine TC.r2 (M' := M) (fn := Tryz.f48) (fun _ _ h => h) rfl (RV.tmp rfl) (RV.tmp rfl) ?_
  exact ⟨rfl, rfl⟩
 ·
  (rw [hg1_, hm] at c1; cases c1)

/-- quorumite/quorumiteref1.Seal -/
theorem refSeal_yes (k : K2) (m : Ms) (M : Hp) (hm : mayM m = true) : FnC Tryz.prog 16 #[.agg #[.int .u64 k.a, .int .u64 k.b], .agg #[.int .i64 m.kind, .int .i64 m.who, .int .i64 m.gen, .int .i64 m.seq, .int .i64 m.epoch, .int .i64 m.value, .int .i64 m.metric]] M (fun v M' => v = .tuple #[.string (ofL (sealB k m)), .int .i64 0] ∧ M = M') := by
 refine FnC.intro Tryz.func16 rfl 22 rfl (by simp) (fun z => ?_)
 refine TC.en (E' := [(0, _), (1, _)]) ?_
 refine TC.sr ?_
 refine TL.d (Does.box rfl rfl) ?_
 rintro _ _ ⟨b1, rfl, rfl⟩
 refine TL.d (Does.box rfl rfl) ?_
 rintro _ _ ⟨b2, rfl, rfl⟩
 refine TL.v (Val.assign rfl) ?_
 refine TL.v (Val.assign rfl) ?_
 refine TL.nt ?_
 refine TC.sr ?_
 refine TL.v (Val.loadAgg 0 rfl ag39 sz39 rfl rfl rfl) ?_
 refine TL.d (Does.callF go48 rfl (refPutM_yes m _ hm)) ?_
 rintro _ _ ⟨rfl, rfl⟩
 refine TL.v (Val.move rfl) ?_
 refine TL.v (Val.extract rfl rfl) ?_
 refine TL.v (Val.extract rfl rfl) ?_
 refine TL.v (Val.assign rfl) ?_
 refine TL.v (Val.assign rfl) ?_
 refine TL.nt ?_
 refine TC.en (E' := [(2, _), (4, _), (5, _), (6, _), (7, _)]) ?_
 refine TC.seq ?_
 refine TC.sr ?_
 refine TL.v (Val.move rfl) ?_
 refine TL.v (Val.neqI rfl rfl) ?_
 refine TL.nt ?_
 refine TC.condP rfl (fun c1 => ?_) (fun c1 => ?_)
 ·
  exact absurd rfl c1
 ·
  refine TC.skip ?_
  refine AtX.then ?_
  refine TC.sr ?_
  refine TL.v (Val.move rfl) ?_
  refine TL.v (Val.loadAgg 1 rfl ag57 sz57 rfl rfl rfl) ?_
  refine TL.v (Val.move rfl) ?_
  refine TL.d (Does.callF go42 rfl (refTag_fn k (putM m) _ (by simp))) ?_
  rintro _ _ ⟨rfl, rfl⟩
  refine TL.d (Does.callF go49 rfl (refTagB_fn (tagOf k (putM m)) _)) ?_
  rintro _ _ ⟨rfl, rfl⟩
  refine TL.v (Val.addL rfl rfl (by first | omega | (simp <;> omega))) ?_
  refine TL.v (Val.assign rfl) ?_
  refine TL.v (Val.assign rfl) ?_
  refine TL.nt ?_
  refine TC.en (E' := [(4, _), (5, _)]) ?_
  refine TC.r2 (M' := M) (fn := Tryz.f16) (fun _ _ h => h) rfl (RV.tmp rfl) (RV.tmp rfl) ?_
  exact ⟨rfl, rfl⟩

/-- quorumite/quorumiteref1.Seal -/
theorem refSeal_no (k : K2) (m : Ms) (M : Hp) (hm : mayM m = false) : FnC Tryz.prog 16 #[.agg #[.int .u64 k.a, .int .u64 k.b], .agg #[.int .i64 m.kind, .int .i64 m.who, .int .i64 m.gen, .int .i64 m.seq, .int .i64 m.epoch, .int .i64 m.value, .int .i64 m.metric]] M (fun v M' => v = .tuple #[.string (ofL []), .int .i64 1] ∧ M = M') := by
 refine FnC.intro Tryz.func16 rfl 22 rfl (by simp) (fun z => ?_)
 refine TC.en (E' := [(0, _), (1, _)]) ?_
 refine TC.sr ?_
 refine TL.d (Does.box rfl rfl) ?_
 rintro _ _ ⟨b1, rfl, rfl⟩
 refine TL.d (Does.box rfl rfl) ?_
 rintro _ _ ⟨b2, rfl, rfl⟩
 refine TL.v (Val.assign rfl) ?_
 refine TL.v (Val.assign rfl) ?_
 refine TL.nt ?_
 refine TC.sr ?_
 refine TL.v (Val.loadAgg 0 rfl ag39 sz39 rfl rfl rfl) ?_
 refine TL.d (Does.callF go48 rfl (refPutM_no m _ hm)) ?_
 rintro _ _ ⟨rfl, rfl⟩
 refine TL.v (Val.move rfl) ?_
 refine TL.v (Val.extract rfl rfl) ?_
 refine TL.v (Val.extract rfl rfl) ?_
 refine TL.v (Val.assign rfl) ?_
 refine TL.v (Val.assign rfl) ?_
 refine TL.nt ?_
 refine TC.en (E' := [(2, _), (4, _), (5, _), (6, _), (7, _)]) ?_
 refine TC.seq ?_
 refine TC.sr ?_
 refine TL.v (Val.move rfl) ?_
 refine TL.v (Val.neqI rfl rfl) ?_
 refine TL.nt ?_
 refine TC.condP rfl (fun c1 => ?_) (fun c1 => ?_)
 ·
  refine TC.sr ?_
  refine TL.v (Val.move rfl) ?_
  refine TL.v (Val.assign rfl) ?_
  refine TL.v (Val.assign rfl) ?_
  refine TL.nt ?_
  refine TC.r2 (M' := M) (fn := Tryz.f16) (fun _ _ h => h) rfl (RV.tmp rfl) (RV.tmp rfl) ?_
  exact ⟨rfl, rfl⟩
 ·
  exact absurd c1 (by decide)

end Go.Proofs.YtphoapajlcaoeaaGreat
/- walks -/
set_option linter.unusedVariables false
set_option linter.unusedSimpArgs false
set_option maxRecDepth 100000
set_option maxHeartbeats 4000000
namespace Go.Proofs.YtphoapajlcaoeaaGreat
open Go Go.X
/-- quorumite/quorumiteref1.GetMsg -/
theorem refGetM_no1 (l : List UInt8) (M : Hp) (hl : l.length = 32) (hm : mayM (decM l) = false) : FnC Tryz.prog 74 #[.string (ofL l)] M (fun v M' => v = .tuple #[.agg #[.int .i64 0, .int .i64 0, .int .i64 0, .int .i64 0, .int .i64 0, .int .i64 0, .int .i64 0], .int .i64 2] ∧ M = M') := by
 obtain ⟨m, hme⟩ : ∃ m, m = decM l := ⟨_, rfl⟩
 rw [← hme] at hm
 refine FnC.intro Tryz.func74 rfl 73 rfl (by simp) (fun z => ?_)
 refine TC.en (E' := [(0, _)]) ?_
 refine TC.sr ?_
 refine TL.d (Does.alloc ze39 rfl) ?_
 rintro _ _ ⟨b1, rfl, rfl⟩
 refine TL.v (Val.assign rfl) ?_
 refine TL.nt ?_
 refine TC.seq ?_
 refine TC.sr ?_
 refine TL.v (Val.move rfl) ?_
 refine TL.v (Val.lenL rfl rfl un9) ?_
 refine TL.v (Val.neqI rfl rfl) ?_
 refine TL.nt ?_
 refine TC.condP rfl (fun c1 => ?_) (fun c1 => ?_)
 ·
  (exfalso; grind)
 ·
  refine TC.skip ?_
  refine AtX.then ?_
  refine TC.sr ?_
  refine TL.v (Val.move rfl) ?_
  refine TL.v (Val.sliceL (i := 4) (j := 8) rfl un9 rfl rfl rfl rfl (by first | decide | omega) (by first | decide | omega)) ?_
  refine TL.v (Val.addL rfl rfl (by simp; omega)) ?_
  refine TL.d (Does.callF go75 rfl (refGet_fn _ 0 _ (by simp; omega) (by simp; omega))) ?_
  rintro _ _ ⟨rfl, rfl⟩
  refine TL.v (Val.move rfl) ?_
  refine TL.v (Val.extract rfl rfl) ?_
  refine TL.v (Val.extract rfl rfl) ?_
  refine TL.v (Val.assign rfl) ?_
  refine TL.v (Val.assign rfl) ?_
  refine TL.nt ?_
  refine TC.en (E' := [(0, _), (2, _), (3, _), (4, _)]) ?_
  refine TC.sr ?_
  refine TL.v (Val.move rfl) ?_
  refine TL.d (Does.callF go75 rfl (refGet_fn l 8 _ (by omega) (by omega))) ?_
  rintro _ _ ⟨rfl, rfl⟩
  refine TL.v (Val.move rfl) ?_
  refine TL.v (Val.extract rfl rfl) ?_
  refine TL.v (Val.extract rfl rfl) ?_
  refine TL.v (Val.assign rfl) ?_
  refine TL.v (Val.assign rfl) ?_
  refine TL.nt ?_
  refine TC.sr ?_
  refine TL.v (Val.move rfl) ?_
  refine TL.d (Does.callF go75 rfl (refGet_fn l 16 _ (by omega) (by omega))) ?_
  rintro _ _ ⟨rfl, rfl⟩
  refine TL.v (Val.move rfl) ?_
  refine TL.v (Val.extract rfl rfl) ?_
  refine TL.v (Val.extract rfl rfl) ?_
  refine TL.v (Val.assign rfl) ?_
  refine TL.v (Val.assign rfl) ?_
  refine TL.nt ?_
  refine TC.en (E' := [(0, _), (2, _), (3, _), (4, _), (6, _), (8, _)]) ?_
  refine TC.sr ?_
  refine TL.v (Val.move rfl) ?_
  refine TL.d (Does.callF go75 rfl (refGet_fn l 24 _ (by omega) (by omega))) ?_
  rintro _ _ ⟨rfl, rfl⟩
  refine TL.v (Val.move rfl) ?_
  refine TL.v (Val.extract rfl rfl) ?_
  refine TL.v (Val.extract rfl rfl) ?_
  refine TL.v (Val.assign rfl) ?_
  refine TL.v (Val.assign rfl) ?_
  refine TL.nt ?_
  refine TC.join (ι := Nat) (fun x => [(0, .string (ofL l)), (2, .pointer (some ⟨b1, 0, none⟩)), (3, .int .i64 0), (12, .pointer (some ⟨x, 0, none⟩))]) (fun x => (x, .cells #[.int .i64 m.kind, .int .i64 m.who, .int .i64 m.gen, .int .i64 m.seq, .int .i64 m.epoch, .int .i64 m.value, .int .i64 m.metric] 39 (0, 0)) :: (b1, .cells #[.int .i64 0, .int .i64 0, .int .i64 0, .int .i64 0, .int .i64 0, .int .i64 0, .int .i64 0] 39 (0, 0)) :: M) (fun _ => True) ?_ ?_
  ·
   refine TC.drawL M mixed 20 ?_
   refine TA.tk 0 1 rfl rfl rfl (Val.move rfl) ?_
   refine TA.tk 1 3 rfl rfl rfl (Val.indexL (i := 1) rfl rfl un9 rfl (by first | decide | omega)) ?_
   refine TA.tk 2 7 rfl rfl rfl (Val.convI rfl iu5 in3 (r := m.kind) (by rw [hme]; exact wb _)) ?_
   refine TA.tk 3 15 rfl rfl rfl (Val.move rfl) ?_
   refine TA.tk 4 31 rfl rfl rfl (Val.indexL (i := 2) rfl rfl un9 rfl (by first | decide | omega)) ?_
   refine TA.tk 5 63 rfl rfl rfl (Val.convI rfl iu5 in3 (r := m.who) (by rw [hme]; exact wb _)) ?_
   refine TA.tk 6 127 rfl rfl rfl (Val.move rfl) ?_
   refine TA.tk 7 255 rfl rfl rfl (Val.convI rfl iu24 in3 (r := m.gen) (by rw [hme, List.drop_take]; exact gen_ref l (by omega))) ?_
   refine TA.tk 8 511 rfl rfl rfl (Val.move rfl) ?_
   refine TA.tk 9 1023 rfl rfl rfl (Val.convI rfl iu24 in2 (r := m.seq) (by rw [hme]; rfl)) ?_
   refine TA.tk 10 2047 rfl rfl rfl (Val.move rfl) ?_
   refine TA.tk 11 4095 rfl rfl rfl (Val.convI rfl iu24 in2 (r := m.epoch) (by rw [hme]; rfl)) ?_
   refine TA.tk 12 8191 rfl rfl rfl (Val.move rfl) ?_
   refine TA.tk 13 16383 rfl rfl rfl (Val.convI rfl iu24 in2 (r := m.value) (by rw [hme]; rfl)) ?_
   refine TA.tk 14 32767 rfl rfl rfl (Val.move rfl) ?_
   refine TA.tk 15 65535 rfl rfl rfl (Val.indexL (i := 3) rfl rfl un9 rfl (by first | decide | omega)) ?_
   refine TA.tk 16 131071 rfl rfl rfl (Val.convI rfl iu5 in3 (r := m.metric) (by rw [hme]; exact wb _)) ?_
   refine TA.tk 17 262143 rfl rfl rfl (Val.buildS pl39 ze39 rfl rfl) ?_
   refine TA.one 18 (by kernel_rfl) ?_
   refine TO.dz 524287 (some 12) rfl rfl rfl rfl (Does.alloc ze39 rfl) ?_
   rintro _ _ ⟨bm, rfl, rfl⟩
   refine roK ?_
   refine TA.one 19 (by kernel_rfl) ?_
   refine TO.dz 1048575 none rfl rfl rfl rfl (Does.store (i := 0) rfl rfl rfl sz39 rfl rfl (by first | exact Nat.le_of_ble_eq_true rfl | decide | omega) rfl rfl) ?_
   rintro _ _ ⟨rfl, rfl⟩
   refine roK ?_
   refine TA.done (by kernel_rfl) ?_
   refine AtX.join bm ?_ (Sub.cons rfl (Sub.cons rfl (Sub.cons rfl (Sub.cons rfl (Sub.nil _))))) (fun w h => h)
   trivial
  ·
   intro bm _
   refine TC.seq ?_
   refine TC.sr ?_
   refine TL.v (Val.loadAgg 0 rfl ag39 sz39 rfl rfl rfl) ?_
   refine TL.d (Does.callF go48 rfl (refPutM_no m _ hm)) ?_
   rintro _ _ ⟨rfl, rfl⟩
   refine TL.v (Val.move rfl) ?_
   refine TL.v (Val.extract rfl rfl) ?_
   refine TL.v (Val.extract rfl rfl) ?_
   refine TL.v (Val.assign rfl) ?_
   refine TL.v (Val.assign rfl) ?_
   refine TL.nt ?_
   refine TC.sr ?_
   refine TL.v (Val.move rfl) ?_
   refine TL.v (Val.neqI rfl rfl) ?_
   refine TL.v (Val.move rfl) ?_
   refine TL.pa ?_
   refine TL.pa ?_
   refine TL.pa ?_
   refine TL.v (Val.pick rfl rfl rfl) ?_
   refine TL.nt ?_
   refine TC.en (E' := [(2, _), (3, _), (12, _), (70, _)]) ?_
   refine TC.cond rfl (fun c2 => ?_) (fun c2 => ?_)
   ·
    refine TC.sr ?_
    refine TL.v (Val.buildS pl39 ze39 rfl rfl) ?_
    refine TL.d (Does.store (i := 1) rfl rfl rfl sz39 rfl rfl (by first | exact Nat.le_of_ble_eq_true rfl | decide | omega) rfl rfl) ?_
    rintro _ _ ⟨rfl, rfl⟩
    refine TL.v (Val.assign rfl) ?_
    refine TL.nt ?_
    refine TC.r2 (M' := M) (fn := Tryz.f74) (fun _ _ h => h) rfl (RV.agg (i := 1) rfl ag39 sz39 rfl rfl rfl) (RV.tmp rfl) ?_
    exact ⟨rfl, rfl⟩
   ·
    first | exact absurd rfl c2 | (exfalso; simp at c2) | exact absurd c2 (by decide)

/-- quorumite/quorumiteref1.GetMsg -/
theorem refGetM_no2 (l : List UInt8) (M : Hp) (hl : l.length = 32) (hm : mayM (decM l) = true) (hne : putM (decM l) ≠ l) : FnC Tryz.prog 74 #[.string (ofL l)] M (fun v M' => v = .tuple #[.agg #[.int .i64 0, .int .i64 0, .int .i64 0, .int .i64 0, .int .i64 0, .int .i64 0, .int .i64 0], .int .i64 2] ∧ M = M') := by
 obtain ⟨m, hme⟩ : ∃ m, m = decM l := ⟨_, rfl⟩
 rw [← hme] at hm
 rw [← hme] at hne
 refine FnC.intro Tryz.func74 rfl 73 rfl (by simp) (fun z => ?_)
 refine TC.en (E' := [(0, _)]) ?_
 refine TC.sr ?_
 refine TL.d (Does.alloc ze39 rfl) ?_
 rintro _ _ ⟨b1, rfl, rfl⟩
 refine TL.v (Val.assign rfl) ?_
 refine TL.nt ?_
 refine TC.seq ?_
 refine TC.sr ?_
 refine TL.v (Val.move rfl) ?_
 refine TL.v (Val.lenL rfl rfl un9) ?_
 refine TL.v (Val.neqI rfl rfl) ?_
 refine TL.nt ?_
 refine TC.condP rfl (fun c1 => ?_) (fun c1 => ?_)
 ·
  (exfalso; grind)
 ·
  refine TC.skip ?_
  refine AtX.then ?_
  refine TC.sr ?_
  refine TL.v (Val.move rfl) ?_
  refine TL.v (Val.sliceL (i := 4) (j := 8) rfl un9 rfl rfl rfl rfl (by first | decide | omega) (by first | decide | omega)) ?_
  refine TL.v (Val.addL rfl rfl (by simp; omega)) ?_
  refine TL.d (Does.callF go75 rfl (refGet_fn _ 0 _ (by simp; omega) (by simp; omega))) ?_
  rintro _ _ ⟨rfl, rfl⟩
  refine TL.v (Val.move rfl) ?_
  refine TL.v (Val.extract rfl rfl) ?_
  refine TL.v (Val.extract rfl rfl) ?_
  refine TL.v (Val.assign rfl) ?_
  refine TL.v (Val.assign rfl) ?_
  refine TL.nt ?_
  refine TC.en (E' := [(0, _), (2, _), (3, _), (4, _)]) ?_
  refine TC.sr ?_
  refine TL.v (Val.move rfl) ?_
  refine TL.d (Does.callF go75 rfl (refGet_fn l 8 _ (by omega) (by omega))) ?_
  rintro _ _ ⟨rfl, rfl⟩
  refine TL.v (Val.move rfl) ?_
  refine TL.v (Val.extract rfl rfl) ?_
  refine TL.v (Val.extract rfl rfl) ?_
  refine TL.v (Val.assign rfl) ?_
  refine TL.v (Val.assign rfl) ?_
  refine TL.nt ?_
  refine TC.sr ?_
  refine TL.v (Val.move rfl) ?_
  refine TL.d (Does.callF go75 rfl (refGet_fn l 16 _ (by omega) (by omega))) ?_
  rintro _ _ ⟨rfl, rfl⟩
  refine TL.v (Val.move rfl) ?_
  refine TL.v (Val.extract rfl rfl) ?_
  refine TL.v (Val.extract rfl rfl) ?_
  refine TL.v (Val.assign rfl) ?_
  refine TL.v (Val.assign rfl) ?_
  refine TL.nt ?_
  refine TC.en (E' := [(0, _), (2, _), (3, _), (4, _), (6, _), (8, _)]) ?_
  refine TC.sr ?_
  refine TL.v (Val.move rfl) ?_
  refine TL.d (Does.callF go75 rfl (refGet_fn l 24 _ (by omega) (by omega))) ?_
  rintro _ _ ⟨rfl, rfl⟩
  refine TL.v (Val.move rfl) ?_
  refine TL.v (Val.extract rfl rfl) ?_
  refine TL.v (Val.extract rfl rfl) ?_
  refine TL.v (Val.assign rfl) ?_
  refine TL.v (Val.assign rfl) ?_
  refine TL.nt ?_
  refine TC.join (ι := Nat) (fun x => [(0, .string (ofL l)), (2, .pointer (some ⟨b1, 0, none⟩)), (3, .int .i64 0), (12, .pointer (some ⟨x, 0, none⟩))]) (fun x => (x, .cells #[.int .i64 m.kind, .int .i64 m.who, .int .i64 m.gen, .int .i64 m.seq, .int .i64 m.epoch, .int .i64 m.value, .int .i64 m.metric] 39 (0, 0)) :: (b1, .cells #[.int .i64 0, .int .i64 0, .int .i64 0, .int .i64 0, .int .i64 0, .int .i64 0, .int .i64 0] 39 (0, 0)) :: M) (fun _ => True) ?_ ?_
  ·
   refine TC.drawL M mixed 20 ?_
   refine TA.tk 0 1 rfl rfl rfl (Val.move rfl) ?_
   refine TA.tk 1 3 rfl rfl rfl (Val.indexL (i := 1) rfl rfl un9 rfl (by first | decide | omega)) ?_
   refine TA.tk 2 7 rfl rfl rfl (Val.convI rfl iu5 in3 (r := m.kind) (by rw [hme]; exact wb _)) ?_
   refine TA.tk 3 15 rfl rfl rfl (Val.move rfl) ?_
   refine TA.tk 4 31 rfl rfl rfl (Val.indexL (i := 2) rfl rfl un9 rfl (by first | decide | omega)) ?_
   refine TA.tk 5 63 rfl rfl rfl (Val.convI rfl iu5 in3 (r := m.who) (by rw [hme]; exact wb _)) ?_
   refine TA.tk 6 127 rfl rfl rfl (Val.move rfl) ?_
   refine TA.tk 7 255 rfl rfl rfl (Val.convI rfl iu24 in3 (r := m.gen) (by rw [hme, List.drop_take]; exact gen_ref l (by omega))) ?_
   refine TA.tk 8 511 rfl rfl rfl (Val.move rfl) ?_
   refine TA.tk 9 1023 rfl rfl rfl (Val.convI rfl iu24 in2 (r := m.seq) (by rw [hme]; rfl)) ?_
   refine TA.tk 10 2047 rfl rfl rfl (Val.move rfl) ?_
   refine TA.tk 11 4095 rfl rfl rfl (Val.convI rfl iu24 in2 (r := m.epoch) (by rw [hme]; rfl)) ?_
   refine TA.tk 12 8191 rfl rfl rfl (Val.move rfl) ?_
   refine TA.tk 13 16383 rfl rfl rfl (Val.convI rfl iu24 in2 (r := m.value) (by rw [hme]; rfl)) ?_
   refine TA.tk 14 32767 rfl rfl rfl (Val.move rfl) ?_
   refine TA.tk 15 65535 rfl rfl rfl (Val.indexL (i := 3) rfl rfl un9 rfl (by first | decide | omega)) ?_
   refine TA.tk 16 131071 rfl rfl rfl (Val.convI rfl iu5 in3 (r := m.metric) (by rw [hme]; exact wb _)) ?_
   refine TA.tk 17 262143 rfl rfl rfl (Val.buildS pl39 ze39 rfl rfl) ?_
   refine TA.one 18 (by kernel_rfl) ?_
   refine TO.dz 524287 (some 12) rfl rfl rfl rfl (Does.alloc ze39 rfl) ?_
   rintro _ _ ⟨bm, rfl, rfl⟩
   refine roK ?_
   refine TA.one 19 (by kernel_rfl) ?_
   refine TO.dz 1048575 none rfl rfl rfl rfl (Does.store (i := 0) rfl rfl rfl sz39 rfl rfl (by first | exact Nat.le_of_ble_eq_true rfl | decide | omega) rfl rfl) ?_
   rintro _ _ ⟨rfl, rfl⟩
   refine roK ?_
   refine TA.done (by kernel_rfl) ?_
   refine AtX.join bm ?_ (Sub.cons rfl (Sub.cons rfl (Sub.cons rfl (Sub.cons rfl (Sub.nil _))))) (fun w h => h)
   trivial
  ·
   intro bm _
   refine TC.seq ?_
   refine TC.sr ?_
   refine TL.v (Val.loadAgg 0 rfl ag39 sz39 rfl rfl rfl) ?_
   refine TL.d (Does.callF go48 rfl (refPutM_yes m _ hm)) ?_
   rintro _ _ ⟨rfl, rfl⟩
   refine TL.v (Val.move rfl) ?_
   refine TL.v (Val.extract rfl rfl) ?_
   refine TL.v (Val.extract rfl rfl) ?_
   refine TL.v (Val.assign rfl) ?_
   refine TL.v (Val.assign rfl) ?_
   refine TL.nt ?_
   refine TC.sr ?_
   refine TL.v (Val.move rfl) ?_
   refine TL.v (Val.neqI rfl rfl) ?_
   refine TL.v (Val.move rfl) ?_
   refine TL.vy (Val.move rfl) ?_
   refine TL.vy (Val.move rfl) ?_
   refine TL.vy (Val.neqL rfl rfl) ?_
   refine TL.v (Val.pickOr rfl rfl rfl) ?_
   refine TL.nt ?_
   refine TC.en (E' := [(2, _), (3, _), (12, _), (70, _)]) ?_
   refine TC.condN rfl (fun c2 => ?_) (fun c2 => ?_)
   ·
    refine TC.sr ?_
    refine TL.v (Val.buildS pl39 ze39 rfl rfl) ?_
    refine TL.d (Does.store (i := 1) rfl rfl rfl sz39 rfl rfl (by first | exact Nat.le_of_ble_eq_true rfl | decide | omega) rfl rfl) ?_
    rintro _ _ ⟨rfl, rfl⟩
    refine TL.v (Val.assign rfl) ?_
    refine TL.nt ?_
    refine TC.r2 (M' := M) (fn := Tryz.f74) (fun _ _ h => h) rfl (RV.agg (i := 1) rfl ag39 sz39 rfl rfl rfl) (RV.tmp rfl) ?_
    exact ⟨rfl, rfl⟩
   ·
    (exfalso; simp [hne] at c2)

/-- quorumite/quorumiteref1.GetMsg -/
theorem refGetM_y (l : List UInt8) (M : Hp) (hl : l.length = 32) (hm : mayM (decM l) = true) (hne : putM (decM l) = l) : FnC Tryz.prog 74 #[.string (ofL l)] M (fun v M' => v = .tuple #[.agg #[.int .i64 (decM l).kind, .int .i64 (decM l).who, .int .i64 (decM l).gen, .int .i64 (decM l).seq, .int .i64 (decM l).epoch, .int .i64 (decM l).value, .int .i64 (decM l).metric], .int .i64 0] ∧ M = M') := by
 obtain ⟨m, hme⟩ : ∃ m, m = decM l := ⟨_, rfl⟩
 rw [← hme] at hm
 rw [← hme] at hne
 refine FnC.intro Tryz.func74 rfl 73 rfl (by simp) (fun z => ?_)
 refine TC.en (E' := [(0, _)]) ?_
 refine TC.sr ?_
 refine TL.d (Does.alloc ze39 rfl) ?_
 rintro _ _ ⟨b1, rfl, rfl⟩
 refine TL.v (Val.assign rfl) ?_
 refine TL.nt ?_
 refine TC.seq ?_
 refine TC.sr ?_
 refine TL.v (Val.move rfl) ?_
 refine TL.v (Val.lenL rfl rfl un9) ?_
 refine TL.v (Val.neqI rfl rfl) ?_
 refine TL.nt ?_
 refine TC.condP rfl (fun c1 => ?_) (fun c1 => ?_)
 ·
  (exfalso; grind)
 ·
  refine TC.skip ?_
  refine AtX.then ?_
  refine TC.sr ?_
  refine TL.v (Val.move rfl) ?_
  refine TL.v (Val.sliceL (i := 4) (j := 8) rfl un9 rfl rfl rfl rfl (by first | decide | omega) (by first | decide | omega)) ?_
  refine TL.v (Val.addL rfl rfl (by simp; omega)) ?_
  refine TL.d (Does.callF go75 rfl (refGet_fn _ 0 _ (by simp; omega) (by simp; omega))) ?_
  rintro _ _ ⟨rfl, rfl⟩
  refine TL.v (Val.move rfl) ?_
  refine TL.v (Val.extract rfl rfl) ?_
  refine TL.v (Val.extract rfl rfl) ?_
  refine TL.v (Val.assign rfl) ?_
  refine TL.v (Val.assign rfl) ?_
  refine TL.nt ?_
  refine TC.en (E' := [(0, _), (2, _), (3, _), (4, _)]) ?_
  refine TC.sr ?_
  refine TL.v (Val.move rfl) ?_
  refine TL.d (Does.callF go75 rfl (refGet_fn l 8 _ (by omega) (by omega))) ?_
  rintro _ _ ⟨rfl, rfl⟩
  refine TL.v (Val.move rfl) ?_
  refine TL.v (Val.extract rfl rfl) ?_
  refine TL.v (Val.extract rfl rfl) ?_
  refine TL.v (Val.assign rfl) ?_
  refine TL.v (Val.assign rfl) ?_
  refine TL.nt ?_
  refine TC.sr ?_
  refine TL.v (Val.move rfl) ?_
  refine TL.d (Does.callF go75 rfl (refGet_fn l 16 _ (by omega) (by omega))) ?_
  rintro _ _ ⟨rfl, rfl⟩
  refine TL.v (Val.move rfl) ?_
  refine TL.v (Val.extract rfl rfl) ?_
  refine TL.v (Val.extract rfl rfl) ?_
  refine TL.v (Val.assign rfl) ?_
  refine TL.v (Val.assign rfl) ?_
  refine TL.nt ?_
  refine TC.en (E' := [(0, _), (2, _), (3, _), (4, _), (6, _), (8, _)]) ?_
  refine TC.sr ?_
  refine TL.v (Val.move rfl) ?_
  refine TL.d (Does.callF go75 rfl (refGet_fn l 24 _ (by omega) (by omega))) ?_
  rintro _ _ ⟨rfl, rfl⟩
  refine TL.v (Val.move rfl) ?_
  refine TL.v (Val.extract rfl rfl) ?_
  refine TL.v (Val.extract rfl rfl) ?_
  refine TL.v (Val.assign rfl) ?_
  refine TL.v (Val.assign rfl) ?_
  refine TL.nt ?_
  refine TC.join (ι := Nat) (fun x => [(0, .string (ofL l)), (2, .pointer (some ⟨b1, 0, none⟩)), (3, .int .i64 0), (12, .pointer (some ⟨x, 0, none⟩))]) (fun x => (x, .cells #[.int .i64 m.kind, .int .i64 m.who, .int .i64 m.gen, .int .i64 m.seq, .int .i64 m.epoch, .int .i64 m.value, .int .i64 m.metric] 39 (0, 0)) :: (b1, .cells #[.int .i64 0, .int .i64 0, .int .i64 0, .int .i64 0, .int .i64 0, .int .i64 0, .int .i64 0] 39 (0, 0)) :: M) (fun _ => True) ?_ ?_
  ·
   refine TC.drawL M mixed 20 ?_
   refine TA.tk 0 1 rfl rfl rfl (Val.move rfl) ?_
   refine TA.tk 1 3 rfl rfl rfl (Val.indexL (i := 1) rfl rfl un9 rfl (by first | decide | omega)) ?_
   refine TA.tk 2 7 rfl rfl rfl (Val.convI rfl iu5 in3 (r := m.kind) (by rw [hme]; exact wb _)) ?_
   refine TA.tk 3 15 rfl rfl rfl (Val.move rfl) ?_
   refine TA.tk 4 31 rfl rfl rfl (Val.indexL (i := 2) rfl rfl un9 rfl (by first | decide | omega)) ?_
   refine TA.tk 5 63 rfl rfl rfl (Val.convI rfl iu5 in3 (r := m.who) (by rw [hme]; exact wb _)) ?_
   refine TA.tk 6 127 rfl rfl rfl (Val.move rfl) ?_
   refine TA.tk 7 255 rfl rfl rfl (Val.convI rfl iu24 in3 (r := m.gen) (by rw [hme, List.drop_take]; exact gen_ref l (by omega))) ?_
   refine TA.tk 8 511 rfl rfl rfl (Val.move rfl) ?_
   refine TA.tk 9 1023 rfl rfl rfl (Val.convI rfl iu24 in2 (r := m.seq) (by rw [hme]; rfl)) ?_
   refine TA.tk 10 2047 rfl rfl rfl (Val.move rfl) ?_
   refine TA.tk 11 4095 rfl rfl rfl (Val.convI rfl iu24 in2 (r := m.epoch) (by rw [hme]; rfl)) ?_
   refine TA.tk 12 8191 rfl rfl rfl (Val.move rfl) ?_
   refine TA.tk 13 16383 rfl rfl rfl (Val.convI rfl iu24 in2 (r := m.value) (by rw [hme]; rfl)) ?_
   refine TA.tk 14 32767 rfl rfl rfl (Val.move rfl) ?_
   refine TA.tk 15 65535 rfl rfl rfl (Val.indexL (i := 3) rfl rfl un9 rfl (by first | decide | omega)) ?_
   refine TA.tk 16 131071 rfl rfl rfl (Val.convI rfl iu5 in3 (r := m.metric) (by rw [hme]; exact wb _)) ?_
   refine TA.tk 17 262143 rfl rfl rfl (Val.buildS pl39 ze39 rfl rfl) ?_
   refine TA.one 18 (by kernel_rfl) ?_
   refine TO.dz 524287 (some 12) rfl rfl rfl rfl (Does.alloc ze39 rfl) ?_
   rintro _ _ ⟨bm, rfl, rfl⟩
   refine roK ?_
   refine TA.one 19 (by kernel_rfl) ?_
   refine TO.dz 1048575 none rfl rfl rfl rfl (Does.store (i := 0) rfl rfl rfl sz39 rfl rfl (by first | exact Nat.le_of_ble_eq_true rfl | decide | omega) rfl rfl) ?_
   rintro _ _ ⟨rfl, rfl⟩
   refine roK ?_
   refine TA.done (by kernel_rfl) ?_
   refine AtX.join bm ?_ (Sub.cons rfl (Sub.cons rfl (Sub.cons rfl (Sub.cons rfl (Sub.nil _))))) (fun w h => h)
   trivial
  ·
   intro bm _
   refine TC.seq ?_
   refine TC.sr ?_
   refine TL.v (Val.loadAgg 0 rfl ag39 sz39 rfl rfl rfl) ?_
   refine TL.d (Does.callF go48 rfl (refPutM_yes m _ hm)) ?_
   rintro _ _ ⟨rfl, rfl⟩
   refine TL.v (Val.move rfl) ?_
   refine TL.v (Val.extract rfl rfl) ?_
   refine TL.v (Val.extract rfl rfl) ?_
   refine TL.v (Val.assign rfl) ?_
   refine TL.v (Val.assign rfl) ?_
   refine TL.nt ?_
   refine TC.sr ?_
   refine TL.v (Val.move rfl) ?_
   refine TL.v (Val.neqI rfl rfl) ?_
   refine TL.v (Val.move rfl) ?_
   refine TL.vy (Val.move rfl) ?_
   refine TL.vy (Val.move rfl) ?_
   refine TL.vy (Val.neqL rfl rfl) ?_
   refine TL.v (Val.pickOr rfl rfl rfl) ?_
   refine TL.nt ?_
   refine TC.en (E' := [(2, _), (3, _), (12, _), (70, _)]) ?_
   refine TC.condN rfl (fun c2 => ?_) (fun c2 => ?_)
   ·
    (exfalso; simp [hne] at c2)
   ·
    refine TC.skip ?_
    refine AtX.then ?_
    refine TC.sr ?_
    refine TL.v (Val.loadAgg 0 rfl ag39 sz39 rfl rfl rfl) ?_
    refine TL.d (Does.store (i := 1) rfl rfl rfl sz39 rfl rfl (by first | exact Nat.le_of_ble_eq_true rfl | decide | omega) rfl rfl) ?_
    rintro _ _ ⟨rfl, rfl⟩
    refine TL.v (Val.assign rfl) ?_
    refine TL.nt ?_
    refine TC.r2 (M' := M) (fn := Tryz.f74) (fun _ _ h => h) rfl (RV.agg (i := 1) rfl ag39 sz39 rfl rfl rfl) (RV.tmp rfl) ?_
    refine ⟨?_, rfl⟩
    subst hme
    rfl

theorem refGetM_no (l : List UInt8) (M : Hp) (hl : l.length = 32) (ho : okL l = false) : FnC Tryz.prog 74 #[.string (ofL l)] M (fun v M' => v = .tuple #[.agg #[.int .i64 0, .int .i64 0, .int .i64 0, .int .i64 0, .int .i64 0, .int .i64 0, .int .i64 0], .int .i64 2] ∧ M = M') := by
 cases hm : mayM (decM l)
 · exact refGetM_no1 l M hl hm
 · exact refGetM_no2 l M hl hm (fun e => by rw [(okL_iff).2 ⟨hm, e⟩] at ho; cases ho)
theorem refGetM_yes (m : Ms) (M : Hp) (hm : mayM m = true) : FnC Tryz.prog 74 #[.string (ofL (putM m))] M (fun v M' => v = .tuple #[.agg #[.int .i64 m.kind, .int .i64 m.who, .int .i64 m.gen, .int .i64 m.seq, .int .i64 m.epoch, .int .i64 m.value, .int .i64 m.metric], .int .i64 0] ∧ M = M') := by
 have h := refGetM_y (putM m) M (by simp) (by rw [decM_put hm]; exact hm) (by rw [decM_put hm])
 rw [decM_put hm] at h
 exact h

/-- quorumite/quorumiteref1.Split -/
theorem refSplit_no (l : List UInt8) (M : Hp) (hl : l.length = 48) (ho : okL (l.take 32) = false) : FnC Tryz.prog 40 #[.string (ofL l)] M (fun v M' => v = .tuple #[.agg #[.int .i64 0, .int .i64 0, .int .i64 0, .int .i64 0, .int .i64 0, .int .i64 0, .int .i64 0], .string (ofL []), .agg #[.int .u64 0, .int .u64 0], .int .i64 2] ∧ M = M') := by
 refine FnC.intro Tryz.func40 rfl 44 rfl (by simp) (fun z => ?_)
 refine TC.en (E' := [(0, _)]) ?_
 refine TC.sr ?_
 refine TL.d (Does.alloc ze39 rfl) ?_
 rintro _ _ ⟨b1, rfl, rfl⟩
 refine TL.v (Val.assign rfl) ?_
 refine TL.d (Does.alloc ze98 rfl) ?_
 rintro _ _ ⟨b2, rfl, rfl⟩
 refine TL.v (Val.assign rfl) ?_
 refine TL.nt ?_
 refine TC.seq ?_
 refine TC.sr ?_
 refine TL.v (Val.move rfl) ?_
 refine TL.v (Val.lenL rfl rfl un9) ?_
 refine TL.v (Val.neqI rfl rfl) ?_
 refine TL.nt ?_
 refine TC.condP rfl (fun c1 => ?_) (fun c1 => ?_)
 ·
  (exfalso; grind)
 ·
  refine TC.skip ?_
  refine AtX.then ?_
  refine TC.sr ?_
  refine TL.v (Val.move rfl) ?_
  refine TL.v (Val.sliceL (i := 0) (j := 32) rfl un9 rfl rfl rfl rfl (by omega) (by omega)) ?_
  refine TL.d (Does.callF go74 rfl (refGetM_no (l.take 32) _ (by simp; omega) ho)) ?_
  rintro _ _ ⟨rfl, rfl⟩
  refine TL.v (Val.move rfl) ?_
  refine TL.v (Val.extract rfl rfl) ?_
  refine TL.v (Val.extract rfl rfl) ?_
  refine TL.d (Does.alloc ze39 rfl) ?_
  rintro _ _ ⟨b6, rfl, rfl⟩
  refine TL.d (Does.store (i := 0) rfl rfl rfl sz39 rfl rfl (by first | exact Nat.le_of_ble_eq_true rfl | decide | omega) rfl rfl) ?_
  rintro _ _ ⟨rfl, rfl⟩
  refine TL.v (Val.assign rfl) ?_
  refine TL.nt ?_
  refine TC.en (E' := [(0, _), (2, _), (3, _), (4, _), (5, _), (6, _), (7, _)]) ?_
  refine TC.seq ?_
  refine TC.sr ?_
  refine TL.v (Val.move rfl) ?_
  refine TL.v (Val.neqI rfl rfl) ?_
  refine TL.nt ?_
  refine TC.condP rfl (fun c2 => ?_) (fun c2 => ?_)
  ·
   refine TC.sr ?_
   refine TL.v (Val.buildS pl39 ze39 rfl rfl) ?_
   refine TL.v (Val.buildA ar98 sz24 ze98 rfl rfl) ?_
   refine TL.v (Val.move rfl) ?_
   refine TL.d (Does.store (i := 2) rfl rfl rfl sz39 rfl rfl (by first | exact Nat.le_of_ble_eq_true rfl | decide | omega) rfl rfl) ?_
   rintro _ _ ⟨rfl, rfl⟩
   refine TL.v (Val.assign rfl) ?_
   refine TL.d (Does.store (i := 1) rfl rfl rfl sz98 rfl rfl (by first | exact Nat.le_of_ble_eq_true rfl | decide | omega) rfl rfl) ?_
   rintro _ _ ⟨rfl, rfl⟩
   refine TL.v (Val.assign rfl) ?_
   refine TL.nt ?_
   refine TC.ret4 (fn := Tryz.f40) (fun _ _ h => h) rfl (RV.agg (i := 2) rfl ag39 sz39 rfl rfl rfl) (RV.tmp rfl) (RV.agg (i := 1) rfl ag98 sz98 rfl rfl rfl) (RV.tmp rfl) (M' := M) (by repeat (first | exact ro_refl | exact ro_pre | refine ro_tail ?_ | refine ro_app ?_)) ?_
   exact ⟨rfl, rfl⟩
  ·
   first | exact absurd rfl c2 | (exfalso; simp at c2) | exact absurd c2 (by decide)

/-- quorumite/quorumiteref1.Split -/
theorem refSplit_yes (m : Ms) (tl : List UInt8) (M : Hp) (hm : mayM m = true) (ht : tl.length = 16) : FnC Tryz.prog 40 #[.string (ofL (putM m ++ tl))] M (fun v M' => v = .tuple #[.agg #[.int .i64 m.kind, .int .i64 m.who, .int .i64 m.gen, .int .i64 m.seq, .int .i64 m.epoch, .int .i64 m.value, .int .i64 m.metric], .string (ofL (putM m)), .agg #[.int .u64 (get8 tl 0 : Nat), .int .u64 (get8 tl 8 : Nat)], .int .i64 0] ∧ M = M') := by
 have hpl := putM_len m
 have e0 : ((putM m ++ tl).take 32).drop 0 = putM m := by rw [List.drop_zero, List.take_left' hpl]
 have e32 : get8 (putM m ++ tl) 32 = get8 tl 0 := by rw [← get8_drop, List.drop_left' hpl]
 have e40 : get8 (putM m ++ tl) 40 = get8 tl 8 := by rw [← get8_drop, show 40 = 32 + 8 from rfl, ← List.drop_drop, List.drop_left' hpl, get8_drop]
 refine FnC.intro Tryz.func40 rfl 44 rfl (by simp) (fun z => ?_)
 refine TC.en (E' := [(0, _)]) ?_
 refine TC.sr ?_
 refine TL.d (Does.alloc ze39 rfl) ?_
 rintro _ _ ⟨b1, rfl, rfl⟩
 refine TL.v (Val.assign rfl) ?_
 refine TL.d (Does.alloc ze98 rfl) ?_
 rintro _ _ ⟨b2, rfl, rfl⟩
 refine TL.v (Val.assign rfl) ?_
 refine TL.nt ?_
 refine TC.seq ?_
 refine TC.sr ?_
 refine TL.v (Val.move rfl) ?_
 refine TL.v (Val.lenL rfl rfl un9) ?_
 refine TL.v (Val.neqI rfl rfl) ?_
 refine TL.nt ?_
 refine TC.condP rfl (fun c1 => ?_) (fun c1 => ?_)
 ·
  (exfalso; grind)
 ·
  refine TC.skip ?_
  refine AtX.then ?_
  refine TC.sr ?_
  refine TL.v (Val.move rfl) ?_
  refine TL.v (Val.same (v' := .string (ofL (putM m))) (Val.sliceL (i := 0) (j := 32) rfl un9 rfl rfl rfl rfl (by omega) (by simp)) (by rw [e0])) ?_
  refine TL.d (Does.callF go74 rfl (refGetM_yes m _ hm)) ?_
  rintro _ _ ⟨rfl, rfl⟩
  refine TL.v (Val.move rfl) ?_
  refine TL.v (Val.extract rfl rfl) ?_
  refine TL.v (Val.extract rfl rfl) ?_
  refine TL.d (Does.alloc ze39 rfl) ?_
  rintro _ _ ⟨b6, rfl, rfl⟩
  refine TL.d (Does.store (i := 0) rfl rfl rfl sz39 rfl rfl (by first | exact Nat.le_of_ble_eq_true rfl | decide | omega) rfl rfl) ?_
  rintro _ _ ⟨rfl, rfl⟩
  refine TL.v (Val.assign rfl) ?_
  refine TL.nt ?_
  refine TC.en (E' := [(0, _), (2, _), (3, _), (4, _), (5, _), (6, _), (7, _)]) ?_
  refine TC.seq ?_
  refine TC.sr ?_
  refine TL.v (Val.move rfl) ?_
  refine TL.v (Val.neqI rfl rfl) ?_
  refine TL.nt ?_
  refine TC.condP rfl (fun c2 => ?_) (fun c2 => ?_)
  ·
   exact absurd rfl c2
  ·
   refine TC.skip ?_
   refine AtX.then ?_
   refine TC.sr ?_
   refine TL.v (Val.move rfl) ?_
   refine TL.d (Does.callF go75 rfl (refGet_fn _ 32 _ (by simp; omega) (by simp; omega))) ?_
   rintro _ _ ⟨rfl, rfl⟩
   rw [e32]
   refine TL.v (Val.move rfl) ?_
   refine TL.v (Val.extract rfl rfl) ?_
   refine TL.v (Val.extract rfl rfl) ?_
   refine TL.v (Val.assign rfl) ?_
   refine TL.v (Val.assign rfl) ?_
   refine TL.nt ?_
   refine TC.en (E' := [(0, _), (2, _), (3, _), (4, _), (5, _), (6, _), (8, _)]) ?_
   refine TC.sr ?_
   refine TL.v (Val.move rfl) ?_
   refine TL.d (Does.callF go75 rfl (refGet_fn _ 40 _ (by simp; omega) (by simp; omega))) ?_
   rintro _ _ ⟨rfl, rfl⟩
   rw [e40]
   refine TL.v (Val.move rfl) ?_
   refine TL.v (Val.extract rfl rfl) ?_
   refine TL.v (Val.extract rfl rfl) ?_
   refine TL.v (Val.assign rfl) ?_
   refine TL.v (Val.assign rfl) ?_
   refine TL.nt ?_
   refine TC.seq ?_
   refine TC.heap (M' := (b2, .cells #[.int .u64 0, .int .u64 0] 98 (0, 0)) :: (b1, .cells #[.int .i64 0, .int .i64 0, .int .i64 0, .int .i64 0, .int .i64 0, .int .i64 0, .int .i64 0] 39 (0, 0)) :: (b6, .cells #[.int .i64 m.kind, .int .i64 m.who, .int .i64 m.gen, .int .i64 m.seq, .int .i64 m.epoch, .int .i64 m.value, .int .i64 m.metric] 39 (0, 0)) :: M) (fun w h => ro_mv (A := [_]) (L := [_, _]) w h) ?_
   refine TC.drawL ((b6, .cells #[.int .i64 m.kind, .int .i64 m.who, .int .i64 m.gen, .int .i64 m.seq, .int .i64 m.epoch, .int .i64 m.value, .int .i64 m.metric] 39 (0, 0)) :: M) mixed 10 ?_
   refine TA.tk 0 1 rfl rfl rfl (Val.loadAgg 0 rfl ag39 sz39 rfl rfl rfl) ?_
   refine TA.tk 1 3 rfl rfl rfl (Val.move rfl) ?_
   refine TA.tk 2 7 rfl rfl rfl (Val.same (v' := .string (ofL (putM m))) (Val.sliceL (i := 0) (j := 32) rfl un9 rfl rfl rfl rfl (by omega) (by simp)) (by rw [e0])) ?_
   refine TA.tk 3 15 rfl rfl rfl (Val.move rfl) ?_
   refine TA.tk 4 31 rfl rfl rfl (Val.move rfl) ?_
   refine TA.tk 5 63 rfl rfl rfl (Val.buildA ar98 sz24 ze98 rfl rfl) ?_
   refine TA.one 6 (by kernel_rfl) ?_
   refine TO.dz 127 none rfl rfl rfl rfl (Does.store (i := 1) rfl rfl rfl sz39 rfl rfl (by first | exact Nat.le_of_ble_eq_true rfl | decide | omega) rfl rfl) ?_
   rintro _ _ ⟨rfl, rfl⟩
   refine roK ?_
   refine TA.tk 7 255 rfl rfl rfl (Val.assign rfl) ?_
   refine TA.one 8 (by kernel_rfl) ?_
   refine TO.dz 511 none rfl rfl rfl rfl (Does.store (i := 0) rfl rfl rfl sz98 rfl rfl (by first | exact Nat.le_of_ble_eq_true rfl | decide | omega) rfl rfl) ?_
   rintro _ _ ⟨rfl, rfl⟩
   refine roK ?_
   refine TA.tk 9 1023 rfl rfl rfl (Val.assign rfl) ?_
   refine TA.done (by kernel_rfl) ?_
   refine AtX.then ?_
   refine TC.en (E' := [(2, _), (3, _), (4, _), (5, _)]) ?_
   refine TC.ret4 (fn := Tryz.f40) (fun _ _ h => h) rfl (RV.agg (i := 1) rfl ag39 sz39 rfl rfl rfl) (RV.tmp rfl) (RV.agg (i := 0) rfl ag98 sz98 rfl rfl rfl) (RV.tmp rfl) (M' := M) (by repeat (first | exact ro_refl | exact ro_pre | refine ro_tail ?_ | refine ro_app ?_)) ?_
   exact ⟨rfl, rfl⟩

end Go.Proofs.YtphoapajlcaoeaaGreat
/- walks -/
set_option linter.unusedVariables false
set_option linter.unusedSimpArgs false
set_option maxRecDepth 100000
set_option maxHeartbeats 4000000
namespace Go.Proofs.YtphoapajlcaoeaaGreat
open Go Go.X
abbrev rrO (b : Nat) (s gr : Int) (lg ls n : Nat) : Nat × Obj := (b, .cells #[.int .u64 s, .int .i64 gr, .slice (some ⟨lg, 0, none⟩) n n, .slice (some ⟨ls, 0, none⟩) n n] 67 (0, 0))
abbrev rpO (b : Nat) (w top : Int) (A : Option Addr) (n c : Nat) : Nat × Obj := (b, .cells #[.int .i64 w, .int .i64 top, .slice A n c] 75 (0, 0))
abbrev gens (l : List On) : List Value := l.map (fun x => Value.int .i64 x.gen)
abbrev sinces (l : List On) : List Value := l.map (fun x => Value.int .i64 x.since)
theorem zrep_g (n : Nat) : zrep (Value.int .i64 0).cells.toList n = gens (List.replicate n (⟨0, 0⟩ : On)) := by
 induction n with
 | zero => rfl
 | succ n ih => simp only [zrep, ih, gens, List.replicate_succ, List.map_cons]; rfl
theorem zrep_s (n : Nat) : zrep (Value.int .i64 0).cells.toList n = sinces (List.replicate n (⟨0, 0⟩ : On)) := by
 induction n with
 | zero => rfl
 | succ n ih => simp only [zrep, ih, sinces, List.replicate_succ, List.map_cons]; rfl
/-- quorumite/quorumiteref5.NewRing -/
theorem rrNew_fn (s : Int) (n : Nat) (gr : Int) (M : Hp) (hn : 1 ≤ n ∧ n ≤ 16) (hg : 1 ≤ gr ∧ gr ≤ 100) : FnC Tryz.prog 33 #[.int .u64 s, .int .i64 (n : Nat), .int .i64 gr] M (fun v M' => ∃ b lg ls, v = .pointer (some ⟨b, 0, none⟩) ∧ M' = rrO b s gr lg ls n :: (lg, row 3 (gens (List.replicate n (⟨0, 0⟩ : On)))) :: (ls, row 2 (sinces (List.replicate n (⟨0, 0⟩ : On)))) :: M) := by
 refine FnC.intro Tryz.func33 rfl 29 rfl (by simp) (fun z => ?_)
 refine TC.en (E' := [(0, _), (1, _), (2, _)]) ?_
 refine TC.sr ?_
 refine TL.v (Val.assign rfl) ?_
 refine TL.nt ?_
 refine TC.seq ?_
 refine TC.sr ?_
 refine TL.v (Val.move rfl) ?_
 refine TL.v (Val.lss rfl rfl) ?_
 refine TL.v (Val.move rfl) ?_
 refine TL.gen (fun g1 hg1 => ?_)
 refine TL.gv rfl rfl rfl (fun hg => by subst hg; exact (Val.move rfl)) ?_
 refine TL.gv rfl rfl rfl (fun hg => by subst hg; exact (Val.gtr rfl rfl)) ?_
 refine TL.v (Val.pickOr rfl rfl rfl) ?_
 refine TL.v (Val.move rfl) ?_
 refine TL.gen (fun g2 hg2 => ?_)
 refine TL.gv rfl rfl rfl (fun hg => by subst hg; exact (Val.move rfl)) ?_
 refine TL.gv rfl rfl rfl (fun hg => by subst hg; exact (Val.lss rfl rfl)) ?_
 refine TL.v (Val.pickOr rfl rfl rfl) ?_
 refine TL.v (Val.move rfl) ?_
 refine TL.gen (fun g3 hg3 => ?_)
 refine TL.gv rfl rfl rfl (fun hg => by subst hg; exact (Val.move rfl)) ?_
 refine TL.gv rfl rfl rfl (fun hg => by subst hg; exact (Val.gtr rfl rfl)) ?_
 refine TL.v (Val.pickOr rfl rfl rfl) ?_
 refine TL.nt ?_
 refine TC.en (E' := [(0, _), (1, _), (2, _), (6, _), (20, _)]) ?_
 refine TC.cond rfl (fun c1 => ?_) (fun c1 => ?_)
 ·
  (exfalso; grind)
 ·
  refine TC.skip ?_
  refine AtX.then ?_
  refine TC.seq ?_
  refine TC.drawL M mixed 9 ?_
  refine TA.tk 0 1 rfl rfl rfl (Val.move rfl) ?_
  refine TA.tk 1 3 rfl rfl rfl (Val.move rfl) ?_
  refine TA.tk 2 7 rfl rfl rfl (Val.move rfl) ?_
  refine TA.tk 4 23 rfl rfl rfl (Val.move rfl) ?_
  refine TA.two 3 5 (by kernel_rfl) ?_ ?_
  ·
   refine TO.dz 31 (some 24) rfl rfl rfl rfl (Does.makeSlice (n := n) (c := n) rfl rfl sl22 sz3 by3 ze3 rfl rfl rfl (by omega) (by omega) (by omega)) ?_
   rintro _ _ ⟨bg, rfl, rfl⟩
   rw [show zrep (Value.int .i64 0).cells.toList n = gens (List.replicate n (⟨0, 0⟩ : On)) from zrep_g n]
   refine roK ?_
   refine TA.one 5 (by kernel_rfl) ?_
   refine TO.dz 63 (some 26) rfl rfl rfl rfl (Does.makeSlice (n := n) (c := n) rfl rfl sl65 sz2 by2 ze2 rfl rfl rfl (by omega) (by omega) (by omega)) ?_
   rintro _ _ ⟨bs, rfl, rfl⟩
   rw [show zrep (Value.int .i64 0).cells.toList n = sinces (List.replicate n (⟨0, 0⟩ : On)) from zrep_s n]
   refine roK ?_
   refine TA.tk 6 127 rfl rfl rfl (Val.buildS (cs := [.int .u64 s, .int .i64 gr, .slice (some ⟨bg, 0, none⟩) n n, .slice (some ⟨bs, 0, none⟩) n n]) pl67 ze67 rfl rfl) ?_
   refine TA.one 7 (by kernel_rfl) ?_
   refine TO.dz 255 (some 28) rfl rfl rfl rfl (Does.box rfl rfl) ?_
   rintro _ _ ⟨bx, rfl, rfl⟩
   refine roK ?_
   refine TA.tk 8 511 rfl rfl rfl (Val.assign rfl) ?_
   refine TA.done (by kernel_rfl) ?_
   refine AtX.then ?_
   refine TC.en (E' := [(6, _)]) ?_
   refine TC.r1 (hM := ro_ac) (M' := rrO bx s gr bg bs n :: (bg, row 3 (gens (List.replicate n (⟨0, 0⟩ : On)))) :: (bs, row 2 (sinces (List.replicate n (⟨0, 0⟩ : On)))) :: M) (fn := Tryz.f33) (fun _ _ h => h) rfl (RV.tmp rfl) ?_
   exact ⟨bx, bg, bs, rfl, rfl⟩
  ·
   refine TO.dz 55 (some 26) rfl rfl rfl rfl (Does.makeSlice (n := n) (c := n) rfl rfl sl65 sz2 by2 ze2 rfl rfl rfl (by omega) (by omega) (by omega)) ?_
   rintro _ _ ⟨bs, rfl, rfl⟩
   rw [show zrep (Value.int .i64 0).cells.toList n = sinces (List.replicate n (⟨0, 0⟩ : On)) from zrep_s n]
   refine roK ?_
   refine TA.one 3 (by kernel_rfl) ?_
   refine TO.dz 63 (some 24) rfl rfl rfl rfl (Does.makeSlice (n := n) (c := n) rfl rfl sl22 sz3 by3 ze3 rfl rfl rfl (by omega) (by omega) (by omega)) ?_
   rintro _ _ ⟨bg, rfl, rfl⟩
   rw [show zrep (Value.int .i64 0).cells.toList n = gens (List.replicate n (⟨0, 0⟩ : On)) from zrep_g n]
   refine roK ?_
   refine TA.tk 6 127 rfl rfl rfl (Val.buildS (cs := [.int .u64 s, .int .i64 gr, .slice (some ⟨bg, 0, none⟩) n n, .slice (some ⟨bs, 0, none⟩) n n]) pl67 ze67 rfl rfl) ?_
   refine TA.one 7 (by kernel_rfl) ?_
   refine TO.dz 255 (some 28) rfl rfl rfl rfl (Does.box rfl rfl) ?_
   rintro _ _ ⟨bx, rfl, rfl⟩
   refine roK ?_
   refine TA.tk 8 511 rfl rfl rfl (Val.assign rfl) ?_
   refine TA.done (by kernel_rfl) ?_
   refine AtX.then ?_
   refine TC.en (E' := [(6, _)]) ?_
   refine TC.r1 (hM := ro_ac) (M' := rrO bx s gr bg bs n :: (bg, row 3 (gens (List.replicate n (⟨0, 0⟩ : On)))) :: (bs, row 2 (sinces (List.replicate n (⟨0, 0⟩ : On)))) :: M) (fn := Tryz.f33) (fun _ _ h => h) rfl (RV.tmp rfl) ?_
   exact ⟨bx, bg, bs, rfl, rfl⟩

/-- quorumite/quorumiteref5.NewReplay -/
theorem rpNew_fn (w : Int) (M : Hp) (hw : 1 ≤ w ∧ w ≤ 64) : FnC Tryz.prog 34 #[.int .i64 w] M (fun v M' => ∃ b, v = .pointer (some ⟨b, 0, none⟩) ∧ M' = rpO b w 0 none 0 0 :: M) := by
 refine FnC.intro Tryz.func34 rfl 12 rfl (by simp) (fun z => ?_)
 refine TC.en (E' := [(0, _)]) ?_
 refine TC.sr ?_
 refine TL.v (Val.assign rfl) ?_
 refine TL.nt ?_
 refine TC.seq ?_
 refine TC.sr ?_
 refine TL.v (Val.move rfl) ?_
 refine TL.v (Val.lss rfl rfl) ?_
 refine TL.v (Val.move rfl) ?_
 refine TL.gen (fun g1 hg1 => ?_)
 refine TL.gv rfl rfl rfl (fun hg => by subst hg; exact (Val.move rfl)) ?_
 refine TL.gv rfl rfl rfl (fun hg => by subst hg; exact (Val.gtr rfl rfl)) ?_
 refine TL.v (Val.pickOr rfl rfl rfl) ?_
 refine TL.nt ?_
 refine TC.cond rfl (fun c1 => ?_) (fun c1 => ?_)
 ·
  (exfalso; grind)
 ·
  refine TC.skip ?_
  refine AtX.then ?_
  refine TC.sr ?_
  refine TL.v (Val.move rfl) ?_
  refine TL.v (Val.buildS pl75 ze75 rfl rfl) ?_
  refine TL.d (Does.box rfl rfl) ?_
  rintro _ _ ⟨b2, rfl, rfl⟩
  refine TL.v (Val.assign rfl) ?_
  refine TL.nt ?_
  refine TC.en (E' := [(2, _)]) ?_
  refine TC.r1 (hM := (fun _ h => h)) (fn := Tryz.f34) (fun _ _ h => h) rfl (RV.tmp rfl) ?_
  exact ⟨_, rfl, rfl⟩

/-- quorumite/quorumiteref5.sealed -/
theorem rsealed_fn (k : Nat) (kind gen sq ep va me : Int) (M : Hp) (hg : -1000000 ≤ gen ∧ gen ≤ 1000000) : FnC Tryz.prog 76 #[.agg #[.int .i64 kind, .int .i64 ((k : Nat) : Int), .int .i64 gen, .int .i64 sq, .int .i64 ep, .int .i64 va, .int .i64 me]] M (fun v M' => v = .int .i64 (sgen kind gen) ∧ M = M') := by
 refine FnC.intro Tryz.func76 rfl 11 rfl (by simp) (fun z => ?_)
 refine TC.en (E' := [(0, _)]) ?_
 refine TC.sr ?_
 refine TL.d (Does.box rfl rfl) ?_
 rintro _ _ ⟨b1, rfl, rfl⟩
 refine TL.v (Val.assign rfl) ?_
 refine TL.nt ?_
 refine TC.seq ?_
 refine TC.sr ?_
 refine TL.v (Val.fieldAddr rfl fl39_0 sz3 rfl) ?_
 refine TL.v (Val.load 0 rfl ag3 rfl rfl) ?_
 refine TL.v (Val.eqlI rfl rfl) ?_
 refine TL.nt ?_
 refine TC.condP rfl (fun c1 => ?_) (fun c1 => ?_)
 ·
  refine TC.sr ?_
  refine TL.v (Val.fieldAddr rfl fl39_2 sz3 rfl) ?_
  refine TL.v (Val.load 0 rfl ag3 rfl rfl) ?_
  refine TL.v (Val.sub rfl rfl (r := gen - 1) (w_i64 (by omega) (by omega))) ?_
  refine TL.v (Val.assign rfl) ?_
  refine TL.nt ?_
  refine TC.r1 (M' := M) (fn := Tryz.f76) (fun _ _ h => h) rfl (RV.tmp rfl) ?_
  refine ⟨?_, rfl⟩
  unfold sgen
  first | rw [if_pos (by omega)] | rw [if_neg (by omega)]
 ·
  refine TC.skip ?_
  refine AtX.then ?_
  refine TC.sr ?_
  refine TL.v (Val.fieldAddr rfl fl39_2 sz3 rfl) ?_
  refine TL.v (Val.load 0 rfl ag3 rfl rfl) ?_
  refine TL.v (Val.assign rfl) ?_
  refine TL.nt ?_
  refine TC.r1 (M' := M) (fn := Tryz.f76) (fun _ _ h => h) rfl (RV.tmp rfl) ?_
  refine ⟨?_, rfl⟩
  unfold sgen
  first | rw [if_pos (by omega)] | rw [if_neg (by omega)]

/-- (*quorumite/quorumiteref5.Replay).has -/
theorem rhas_fn (b i : Nat) (w top : Int) (A : Option Addr) (n c : Nat) (M : Hp) (hi : M[i]? = some (rpO b w top A n c)) (l : List Int) (hA : RdS M A (l.map (Value.int .i64))) (hn : n = l.length) (hl : l.length ≤ 100000) (sq : Int) : FnC Tryz.prog 62 #[.pointer (some ⟨b, 0, none⟩), .int .i64 sq] M (fun v M' => v = .bool (decide (sq ∈ l)) ∧ M = M') := by
 subst hn
 refine FnC.intro Tryz.func62 rfl 24 rfl (by simp) (fun z => ?_)
 refine TC.en (E' := [(0, _), (1, _)]) ?_
 refine TC.sr ?_
 refine TL.v (Val.assign rfl) ?_
 refine TL.nt ?_
 refine TC.seq ?_
 refine TC.sr ?_
 refine TL.v (Val.assign rfl) ?_
 refine TL.nt ?_
 refine TC.block ?_
 refine TC.loop (ι := Nat) (fun k => [(0, .pointer (some ⟨b, 0, none⟩)), (1, .int .i64 sq), (5, .int .i64 (k : Nat))]) (fun _ => M) (fun k => k ≤ l.length ∧ sq ∉ l.take k) (fun k => l.length - k) 0 ?_ (Sub.cons rfl (Sub.cons rfl (Sub.cons rfl (Sub.nil _)))) (fun _ h => h) ?_
 · exact ⟨Nat.zero_le _, by simp⟩
 intro k hkk
 obtain ⟨hk, hnot⟩ := hkk
 refine TC.seq ?_
 refine TC.sr ?_
 refine TL.v (Val.move rfl) ?_
 refine TL.v (Val.move rfl) ?_
 refine TL.v (Val.nilCheck rfl) ?_
 refine TL.v (Val.fieldAddr rfl fl75_2 sz65 rfl) ?_
 refine TL.v (Val.load i rfl ag65 hi rfl) ?_
 refine TL.v (Val.lenSl rfl rfl sl65) ?_
 refine TL.v (Val.lss rfl rfl) ?_
 refine TL.nt ?_
 refine TC.condP rfl (fun c1 => ?_) (fun c1 => ?_)
 ·
  refine TC.skip ?_
  refine AtX.then ?_
  refine TC.seq ?_
  refine TC.block ?_
  refine TC.seq ?_
  have hlt : k < l.length := by omega
  obtain ⟨x, hx⟩ : ∃ x, l[k]? = some x := ⟨_, List.getElem?_eq_getElem hlt⟩
  obtain ⟨bA, oA, rfl, hRA⟩ := RdS.get hA (by simp; omega)
  refine TC.region ?_
  refine TL.v (Val.move rfl) ?_
  refine TL.v (Val.nilCheck rfl) ?_
  refine TL.v (Val.fieldAddr rfl fl75_2 sz65 rfl) ?_
  refine TL.v (Val.load i rfl ag65 hi rfl) ?_
  refine TL.v (Val.move rfl) ?_
  refine TL.v (Val.indexAddr (i := k) (r := oA + k) rfl rfl sl65 sz2 rfl hlt (by omega)) ?_
  refine TL.v (Val.loadRd (o := oA) (j := k) (v := .int .i64 x) rfl ag2 hRA rfl (map_get hx)) ?_
  refine TL.v (Val.move rfl) ?_
  refine TL.v (Val.eqlI rfl rfl) ?_
  refine TL.nt ?_
  refine TC.condP rfl (fun c2 => ?_) (fun c2 => ?_)
  ·
   refine TC.sr ?_
   refine TL.v (Val.assign rfl) ?_
   refine TL.nt ?_
   refine TC.r1 (hM := (fun _ h => h)) (fn := Tryz.f62) (fun _ _ h => h) rfl (RV.tmp rfl) ?_
   refine ⟨?_, rfl⟩
   first | rw [decide_eq_false hnot] | (have hin := List.mem_of_getElem? hx; rw [decide_eq_true (by grind)])
  ·
   refine TC.skip ?_
   refine AtX.blk ?_
   refine AtX.then ?_
   refine TC.region ?_
   refine TL.v (Val.move rfl) ?_
   refine TL.v (Val.add rfl rfl (w_i64 (by omega) (by omega))) ?_
   refine TL.v (Val.assign rfl) ?_
   refine TL.nil ?_
   refine AtX.round (k + 1) ?_ ?_ (Sub.cons rfl (Sub.cons rfl (Sub.cons rfl (Sub.nil _)))) (fun _ h => h)
   · exact ⟨by omega, by rw [List.take_add_one, hx]; simp_all; grind⟩
   · omega
 ·
  refine TC.exit ?_
  refine AtX.seqX ?_
  refine AtX.seqX ?_
  refine AtX.hit ?_
  refine AtX.then ?_
  refine TC.en (E' := []) ?_
  refine TC.seq ?_
  have hke : k = l.length := by omega
  subst hke
  rw [List.take_length] at hnot
  refine TC.region ?_
  refine TL.v (Val.assign rfl) ?_
  refine TL.nt ?_
  refine TC.r1 (hM := (fun _ h => h)) (fn := Tryz.f62) (fun _ _ h => h) rfl (RV.tmp rfl) ?_
  refine ⟨?_, rfl⟩
  first | rw [decide_eq_false hnot] | (have hin := List.mem_of_getElem? hx; rw [decide_eq_true (by grind)])

/-- (*quorumite/quorumiteref5.Replay).May -/
theorem rMay_fn (b i : Nat) (w top : Int) (A : Option Addr) (n c : Nat) (M : Hp) (hi : M[i]? = some (rpO b w top A n c)) (l : List Int) (hA : RdS M A (l.map (Value.int .i64))) (hn : n = l.length) (hl : l.length ≤ 100000) (sq : Int) (hs : 1 ≤ sq ∧ sq ≤ 1099511627776) (hw : 1 ≤ w ∧ w ≤ 64) (ht : 0 ≤ top ∧ top ≤ 1099511627776) : FnC Tryz.prog 43 #[.pointer (some ⟨b, 0, none⟩), .int .i64 sq] M (fun v M' => v = .bool (decide (top - w < sq) && !decide (sq ∈ l)) ∧ M = M') := by
 refine FnC.intro Tryz.func43 rfl 30 rfl (by simp) (fun z => ?_)
 refine TC.en (E' := [(0, _), (1, _)]) ?_
 refine TC.sr ?_
 refine TL.v (Val.assign rfl) ?_
 refine TL.nt ?_
 refine TC.seq ?_
 refine TC.drawLM mixed 26 ?_
 refine TA.tk 0 1 rfl rfl rfl (Val.move rfl) ?_
 refine TA.tk 1 3 rfl rfl rfl (Val.geq rfl rfl) ?_
 refine TA.tk 2 7 rfl rfl rfl (Val.move rfl) ?_
 refine TA.gen (fun g1 hg1 => ?_)
 refine TA.gtk 3 15 rfl rfl rfl rfl rfl (fun hg => by subst hg; exact (Val.move rfl)) ?_
 refine TA.gtk 4 31 rfl rfl rfl rfl rfl (fun hg => by subst hg; exact (Val.leq rfl rfl)) ?_
 refine TA.tk 5 63 rfl rfl rfl (Val.pickAnd rfl rfl rfl) ?_
 refine TA.tk 6 127 rfl rfl rfl (Val.move rfl) ?_
 refine TA.gen (fun g2 hg2 => ?_)
 refine TA.gtk 7 255 rfl rfl rfl rfl rfl (fun hg => by subst hg; exact (Val.move rfl)) ?_
 refine TA.gtk 8 511 rfl rfl rfl rfl rfl (fun hg => by subst hg; exact (Val.move rfl)) ?_
 refine TA.gtk 9 1023 rfl rfl rfl rfl rfl (fun hg => by subst hg; exact (Val.nilCheck rfl)) ?_
 refine TA.gtk 10 2047 rfl rfl rfl rfl rfl (fun hg => by subst hg; exact (Val.fieldAddr rfl fl75_1 sz2 rfl)) ?_
 refine TA.gtk 11 4095 rfl rfl rfl rfl rfl (fun hg => by subst hg; exact (Val.load i rfl ag2 hi rfl)) ?_
 refine TA.gtk 12 8191 rfl rfl rfl rfl rfl (fun hg => by subst hg; exact (Val.move rfl)) ?_
 refine TA.gtk 13 16383 rfl rfl rfl rfl rfl (fun hg => by subst hg; exact (Val.nilCheck rfl)) ?_
 refine TA.gtk 14 32767 rfl rfl rfl rfl rfl (fun hg => by subst hg; exact (Val.fieldAddr rfl fl75_0 sz3 rfl)) ?_
 refine TA.gtk 15 65535 rfl rfl rfl rfl rfl (fun hg => by subst hg; exact (Val.load i rfl ag3 hi rfl)) ?_
 refine TA.gtk 16 131071 rfl rfl rfl rfl rfl (fun hg => by subst hg; exact (Val.sub rfl rfl (r := top - w) (w_i64 (by omega) (by omega)))) ?_
 refine TA.gtk 17 262143 rfl rfl rfl rfl rfl (fun hg => by subst hg; exact (Val.gtr rfl rfl)) ?_
 refine TA.tk 18 524287 rfl rfl rfl (Val.pickAnd rfl rfl rfl) ?_
 refine TA.tk 19 1048575 rfl rfl rfl (Val.move rfl) ?_
 refine TA.gen (fun g3 hg3 => ?_)
 refine TA.gtk 20 2097151 rfl rfl rfl rfl rfl (fun hg => by subst hg; exact (Val.move rfl)) ?_
 refine TA.gtk 21 4194303 rfl rfl rfl rfl rfl (fun hg => by subst hg; exact (Val.move rfl)) ?_
 cases g3 with
 | false =>
  refine TA.tkP 22 8388607 rfl rfl rfl rfl rfl rfl ?_
  refine TA.tkP 23 16777215 rfl rfl rfl rfl rfl rfl ?_
  refine TA.tk 24 33554431 rfl rfl rfl (Val.pick rfl rfl rfl) ?_
  refine TA.tk 25 67108863 rfl rfl rfl (Val.assign rfl) ?_
  refine TA.done (by kernel_rfl) ?_
  refine AtX.then ?_
  refine TC.en (E' := [(4, _)]) ?_
  refine TC.r1 (hM := (fun _ h => h)) (fn := Tryz.f43) (fun _ _ h => h) rfl (RV.tmp rfl) ?_
  refine ⟨?_, rfl⟩
  grind
 | true =>
  refine TA.one 22 (by kernel_rfl) ?_
  refine TO.dzY 8388607 (some 27) rfl rfl rfl rfl rfl rfl (Does.callF go62 rfl (rhas_fn b i w top A n c _ hi l hA hn hl sq)) ?_
  rintro _ _ ⟨rfl, rfl⟩
  refine roK ?_
  refine TA.tkY 23 16777215 rfl rfl rfl rfl rfl (Val.not rfl) ?_
  refine TA.tk 24 33554431 rfl rfl rfl (Val.pickAnd rfl rfl rfl) ?_
  refine TA.tk 25 67108863 rfl rfl rfl (Val.assign rfl) ?_
  refine TA.done (by kernel_rfl) ?_
  refine AtX.then ?_
  refine TC.en (E' := [(4, _)]) ?_
  refine TC.r1 (hM := (fun _ h => h)) (fn := Tryz.f43) (fun _ _ h => h) rfl (RV.tmp rfl) ?_
  refine ⟨?_, rfl⟩
  grind

/-- (*quorumite/quorumiteref5.Ring).Key -/
theorem rKey_fn (b lg ls i : Nat) (s : Int) (l : List On) (gr : Int) (M : Hp) (hi : M[i]? = some (rrO b s gr lg ls l.length)) (hG : Rd M ⟨lg, 0, none⟩ (gens l)) (hS : Rd M ⟨ls, 0, none⟩ (sinces l)) (k : Nat) (x : On) (hx : l[k]? = some x) (gen now : Int) (hg : 0 ≤ x.gen ∧ x.gen ≤ 1000000) (hsi : 0 ≤ x.since ∧ x.since ≤ 1099511627776) (hgr : 0 ≤ gr ∧ gr ≤ 1000) : FnC Tryz.prog 77 #[.pointer (some ⟨b, 0, none⟩), .int .i64 (k : Nat), .int .i64 gen, .int .i64 now] M (fun v M' => v = .tuple #[.agg #[.int .u64 (if okK x gen now gr = true then (macKey s (k : Nat) gen) else ⟨0, 0⟩).a, .int .u64 (if okK x gen now gr = true then (macKey s (k : Nat) gen) else ⟨0, 0⟩).b], .int .i64 (if okK x gen now gr = true then 0 else 4)] ∧ M = M') := by
 have hk : k < l.length := (List.getElem?_eq_some_iff.1 hx).1
 refine FnC.intro Tryz.func77 rfl 73 rfl (by simp) (fun z => ?_)
 refine TC.en (E' := [(0, _), (1, _), (2, _), (3, _)]) ?_
 refine TC.sr ?_
 refine TL.d (Does.alloc ze57 rfl) ?_
 rintro _ _ ⟨b1, rfl, rfl⟩
 refine TL.v (Val.assign rfl) ?_
 refine TL.nt ?_
 refine TC.seq ?_
 refine TC.block ?_
 refine TC.sr ?_
 refine TL.v (Val.move rfl) ?_
 refine TL.v (Val.lss rfl rfl) ?_
 refine TL.v (Val.move rfl) ?_
 refine TL.gen (fun g2 hg2 => ?_)
 refine TL.gv rfl rfl rfl (fun hg => by subst hg; exact (Val.move rfl)) ?_
 refine TL.gv rfl rfl rfl (fun hg => by subst hg; exact (Val.move rfl)) ?_
 refine TL.gv rfl rfl rfl (fun hg => by subst hg; exact (Val.nilCheck rfl)) ?_
 refine TL.gv rfl rfl rfl (fun hg => by subst hg; exact (Val.fieldAddr rfl fl67_2 sz22 rfl)) ?_
 refine TL.gv rfl rfl rfl (fun hg => by subst hg; exact (Val.load (i + 1) rfl ag22 hi rfl)) ?_
 refine TL.gv rfl rfl rfl (fun hg => by subst hg; exact (Val.lenSl rfl rfl sl22)) ?_
 refine TL.gv rfl rfl rfl (fun hg => by subst hg; exact (Val.geq rfl rfl)) ?_
 refine TL.v (Val.pickOr rfl rfl rfl) ?_
 refine TL.v (Val.assign rfl) ?_
 refine TL.nt ?_
 refine TC.en (E' := [(0, _), (1, _), (2, _), (3, _), (8, _), (9, _), (10, _)]) ?_
 refine TC.cond rfl (fun c1 => ?_) (fun c1 => ?_)
 ·
  (exfalso; grind)
 ·
  refine TC.seq ?_
  refine TC.drawLM mixed 42 ?_
  refine TA.tk 0 1 rfl rfl rfl (Val.move rfl) ?_
  refine TA.tk 1 3 rfl rfl rfl (Val.geq rfl rfl) ?_
  refine TA.tk 2 7 rfl rfl rfl (Val.move rfl) ?_
  refine TA.gen (fun g3 hg3 => ?_)
  cases g3 with
  | false =>
   refine TA.tkP 3 15 rfl rfl rfl rfl rfl rfl ?_
   refine TA.tkP 4 31 rfl rfl rfl rfl rfl rfl ?_
   refine TA.tkP 5 63 rfl rfl rfl rfl rfl rfl ?_
   refine TA.tkP 6 127 rfl rfl rfl rfl rfl rfl ?_
   refine TA.tkP 7 255 rfl rfl rfl rfl rfl rfl ?_
   refine TA.tkP 8 511 rfl rfl rfl rfl rfl rfl ?_
   refine TA.tkP 9 1023 rfl rfl rfl rfl rfl rfl ?_
   refine TA.tkP 10 2047 rfl rfl rfl rfl rfl rfl ?_
   refine TA.tkP 11 4095 rfl rfl rfl rfl rfl rfl ?_
   refine TA.tkP 12 8191 rfl rfl rfl rfl rfl rfl ?_
   refine TA.tkU 13 16383 rfl rfl rfl rfl rfl ?_
   refine TA.tkU 14 32767 rfl rfl rfl rfl rfl ?_
   refine TA.tkU 15 65535 rfl rfl rfl rfl rfl ?_
   refine TA.tkU 16 131071 rfl rfl rfl rfl rfl ?_
   refine TA.tkU 17 262143 rfl rfl rfl rfl rfl ?_
   refine TA.tkU 18 524287 rfl rfl rfl rfl rfl ?_
   refine TA.tkU 19 1048575 rfl rfl rfl rfl rfl ?_
   refine TA.tkU 20 2097151 rfl rfl rfl rfl rfl ?_
   refine TA.tkU 21 4194303 rfl rfl rfl rfl rfl ?_
   refine TA.tkU 22 8388607 rfl rfl rfl rfl rfl ?_
   refine TA.tkU 23 16777215 rfl rfl rfl rfl rfl ?_
   refine TA.tkU 24 33554431 rfl rfl rfl rfl rfl ?_
   refine TA.tkU 25 67108863 rfl rfl rfl rfl rfl ?_
   refine TA.tkU 26 134217727 rfl rfl rfl rfl rfl ?_
   refine TA.tkU 27 268435455 rfl rfl rfl rfl rfl ?_
   refine TA.tkU 28 536870911 rfl rfl rfl rfl rfl ?_
   refine TA.tkU 29 1073741823 rfl rfl rfl rfl rfl ?_
   refine TA.tkU 30 2147483647 rfl rfl rfl rfl rfl ?_
   refine TA.tkU 31 4294967295 rfl rfl rfl rfl rfl ?_
   refine TA.tkU 32 8589934591 rfl rfl rfl rfl rfl ?_
   refine TA.tkU 33 17179869183 rfl rfl rfl rfl rfl ?_
   refine TA.tkU 34 34359738367 rfl rfl rfl rfl rfl ?_
   refine TA.tkU 35 68719476735 rfl rfl rfl rfl rfl ?_
   refine TA.tkU 36 137438953471 rfl rfl rfl rfl rfl ?_
   refine TA.tkU 37 274877906943 rfl rfl rfl rfl rfl ?_
   refine TA.tkU 38 549755813887 rfl rfl rfl rfl rfl ?_
   refine TA.tkP 39 1099511627775 rfl rfl rfl rfl rfl rfl ?_
   refine TA.tk 40 2199023255551 rfl rfl rfl (Val.pick rfl rfl rfl) ?_
   refine TA.tk 41 4398046511103 rfl rfl rfl (Val.assign rfl) ?_
   refine TA.done (by kernel_rfl) ?_
   refine AtX.then ?_
   refine TC.en (E' := [(0, _), (1, _), (2, _), (8, _), (9, _), (23, _)]) ?_
   refine TC.cond rfl (fun c2 => ?_) (fun c2 => ?_)
   ·
    refine TC.sr ?_
    refine TL.v (Val.move rfl) ?_
    refine TL.v (Val.nilCheck rfl) ?_
    refine TL.v (Val.fieldAddr rfl fl67_0 sz24 rfl) ?_
    refine TL.v (Val.load (i + 1) rfl ag24 hi rfl) ?_
    refine TL.v (Val.move rfl) ?_
    refine TL.v (Val.move rfl) ?_
    refine TL.d (Does.callF go17 rfl (refOf_fn s (k : Nat) gen _)) ?_
    rintro _ _ ⟨rfl, rfl⟩
    refine TL.d (Does.store (i := 0) rfl rfl rfl sz57 rfl rfl (by first | exact Nat.le_of_ble_eq_true rfl | decide | omega) rfl rfl) ?_
    rintro _ _ ⟨rfl, rfl⟩
    refine TL.v (Val.assign rfl) ?_
    refine TL.nt ?_
    refine TC.en (E' := [(8, _), (9, _)]) ?_
    refine TC.r2 (M' := M) (fn := Tryz.f77) (fun _ _ h => h) rfl (RV.agg (i := 0) rfl ag57 sz57 rfl rfl rfl) (RV.tmp rfl) ?_
    first | (have hok : okK x gen now gr = true := (by unfold okK; grind)) | (have hno : ¬ okK x gen now gr = true := (by unfold okK; grind))
    first | rw [if_pos hok, if_pos hok] | rw [if_neg hno, if_neg hno]
    first | exact ⟨rfl, rfl⟩ | (exfalso; unfold okK at *; grind)
   ·
    refine TC.skip ?_
    refine AtX.blk ?_
    refine AtX.then ?_
    refine TC.sr ?_
    refine TL.v (Val.buildA ar57 sz24 ze57 rfl rfl) ?_
    refine TL.d (Does.store (i := 0) rfl rfl rfl sz57 rfl rfl (by first | exact Nat.le_of_ble_eq_true rfl | decide | omega) rfl rfl) ?_
    rintro _ _ ⟨rfl, rfl⟩
    refine TL.v (Val.assign rfl) ?_
    refine TL.nt ?_
    refine TC.r2 (M' := M) (fn := Tryz.f77) (fun _ _ h => h) rfl (RV.agg (i := 0) rfl ag57 sz57 rfl rfl rfl) (RV.tmp rfl) ?_
    first | (have hok : okK x gen now gr = true := (by unfold okK; grind)) | (have hno : ¬ okK x gen now gr = true := (by unfold okK; grind))
    first | rw [if_pos hok, if_pos hok] | rw [if_neg hno, if_neg hno]
    first | exact ⟨rfl, rfl⟩ | (exfalso; unfold okK at *; grind)
  | true =>
   refine TA.tkY 3 15 rfl rfl rfl rfl rfl (Val.move rfl) ?_
   refine TA.tkY 4 31 rfl rfl rfl rfl rfl (Val.move rfl) ?_
   refine TA.tkY 5 63 rfl rfl rfl rfl rfl (Val.nilCheck rfl) ?_
   refine TA.tkY 6 127 rfl rfl rfl rfl rfl (Val.fieldAddr rfl fl67_2 sz22 rfl) ?_
   refine TA.tkY 7 255 rfl rfl rfl rfl rfl (Val.load (i + 1) rfl ag22 hi rfl) ?_
   refine TA.tkY 8 511 rfl rfl rfl rfl rfl (Val.move rfl) ?_
   refine TA.tkY 9 1023 rfl rfl rfl rfl rfl (Val.indexAddr (i := k) (r := k) rfl rfl sl22 sz3 rfl hk (by omega)) ?_
   refine TA.tkY 10 2047 rfl rfl rfl rfl rfl (Val.loadRd (o := 0) (j := k) (v := .int .i64 x.gen) rfl ag3 (hG.cons _) (by omega) (map_get hx)) ?_
   refine TA.tkY 11 4095 rfl rfl rfl rfl rfl (Val.eqlI rfl rfl) ?_
   refine TA.tkY 12 8191 rfl rfl rfl rfl rfl (Val.move rfl) ?_
   refine TA.gen (fun g5 hg5 => ?_)
   cases g5 with
   | false =>
    refine TA.tkY 13 16383 rfl rfl rfl rfl rfl (Val.move rfl) ?_
    refine TA.tkY 14 32767 rfl rfl rfl rfl rfl (Val.move rfl) ?_
    refine TA.tkY 15 65535 rfl rfl rfl rfl rfl (Val.nilCheck rfl) ?_
    refine TA.tkY 16 131071 rfl rfl rfl rfl rfl (Val.fieldAddr rfl fl67_2 sz22 rfl) ?_
    refine TA.tkY 17 262143 rfl rfl rfl rfl rfl (Val.load (i + 1) rfl ag22 hi rfl) ?_
    refine TA.tkY 18 524287 rfl rfl rfl rfl rfl (Val.move rfl) ?_
    refine TA.tkY 19 1048575 rfl rfl rfl rfl rfl (Val.indexAddr (i := k) (r := k) rfl rfl sl22 sz3 rfl hk (by omega)) ?_
    refine TA.tkY 20 2097151 rfl rfl rfl rfl rfl (Val.loadRd (o := 0) (j := k) (v := .int .i64 x.gen) rfl ag3 (hG.cons _) (by omega) (map_get hx)) ?_
    refine TA.tkY 21 4194303 rfl rfl rfl rfl rfl (Val.sub rfl rfl (r := x.gen - 1) (w_i64 (by omega) (by omega))) ?_
    refine TA.tkY 22 8388607 rfl rfl rfl rfl rfl (Val.eqlI rfl rfl) ?_
    refine TA.tkY 23 16777215 rfl rfl rfl rfl rfl (Val.move rfl) ?_
    refine TA.gen (fun g6 hg6 => ?_)
    refine TA.gtk 24 33554431 rfl rfl rfl rfl rfl (fun hg => by subst hg; exact (Val.move rfl)) ?_
    refine TA.gtk 25 67108863 rfl rfl rfl rfl rfl (fun hg => by subst hg; exact (Val.move rfl)) ?_
    refine TA.gtk 26 134217727 rfl rfl rfl rfl rfl (fun hg => by subst hg; exact (Val.nilCheck rfl)) ?_
    refine TA.gtk 27 268435455 rfl rfl rfl rfl rfl (fun hg => by subst hg; exact (Val.fieldAddr rfl fl67_3 sz65 rfl)) ?_
    refine TA.gtk 28 536870911 rfl rfl rfl rfl rfl (fun hg => by subst hg; exact (Val.load (i + 1) rfl ag65 hi rfl)) ?_
    refine TA.gtk 29 1073741823 rfl rfl rfl rfl rfl (fun hg => by subst hg; exact (Val.move rfl)) ?_
    refine TA.gtk 30 2147483647 rfl rfl rfl rfl rfl (fun hg => by subst hg; exact (Val.indexAddr (i := k) (r := k) rfl rfl sl65 sz2 rfl hk (by omega))) ?_
    refine TA.gtk 31 4294967295 rfl rfl rfl rfl rfl (fun hg => by subst hg; exact (Val.loadRd (o := 0) (j := k) (v := .int .i64 x.since) rfl ag2 (hS.cons _) (by omega) (map_get hx))) ?_
    refine TA.gtk 32 8589934591 rfl rfl rfl rfl rfl (fun hg => by subst hg; exact (Val.move rfl)) ?_
    refine TA.gtk 33 17179869183 rfl rfl rfl rfl rfl (fun hg => by subst hg; exact (Val.nilCheck rfl)) ?_
    refine TA.gtk 34 34359738367 rfl rfl rfl rfl rfl (fun hg => by subst hg; exact (Val.fieldAddr rfl fl67_1 sz3 rfl)) ?_
    refine TA.gtk 35 68719476735 rfl rfl rfl rfl rfl (fun hg => by subst hg; exact (Val.load (i + 1) rfl ag3 hi rfl)) ?_
    refine TA.gtk 36 137438953471 rfl rfl rfl rfl rfl (fun hg => by subst hg; exact (Val.add rfl rfl (r := x.since + gr) (w_i64 (by omega) (by omega)))) ?_
    refine TA.gtk 37 274877906943 rfl rfl rfl rfl rfl (fun hg => by subst hg; exact (Val.lss rfl rfl)) ?_
    refine TA.tkY 38 549755813887 rfl rfl rfl rfl rfl (Val.pickAnd rfl rfl rfl) ?_
    refine TA.tkY 39 1099511627775 rfl rfl rfl rfl rfl (Val.pickOr rfl rfl rfl) ?_
    refine TA.tk 40 2199023255551 rfl rfl rfl (Val.pickAnd rfl rfl rfl) ?_
    refine TA.tk 41 4398046511103 rfl rfl rfl (Val.assign rfl) ?_
    refine TA.done (by kernel_rfl) ?_
    refine AtX.then ?_
    refine TC.en (E' := [(0, _), (1, _), (2, _), (8, _), (9, _), (23, _)]) ?_
    refine TC.cond rfl (fun c3 => ?_) (fun c3 => ?_)
    ·
     refine TC.sr ?_
     refine TL.v (Val.move rfl) ?_
     refine TL.v (Val.nilCheck rfl) ?_
     refine TL.v (Val.fieldAddr rfl fl67_0 sz24 rfl) ?_
     refine TL.v (Val.load (i + 1) rfl ag24 hi rfl) ?_
     refine TL.v (Val.move rfl) ?_
     refine TL.v (Val.move rfl) ?_
     refine TL.d (Does.callF go17 rfl (refOf_fn s (k : Nat) gen _)) ?_
     rintro _ _ ⟨rfl, rfl⟩
     refine TL.d (Does.store (i := 0) rfl rfl rfl sz57 rfl rfl (by first | exact Nat.le_of_ble_eq_true rfl | decide | omega) rfl rfl) ?_
     rintro _ _ ⟨rfl, rfl⟩
     refine TL.v (Val.assign rfl) ?_
     refine TL.nt ?_
     refine TC.en (E' := [(8, _), (9, _)]) ?_
     refine TC.r2 (M' := M) (fn := Tryz.f77) (fun _ _ h => h) rfl (RV.agg (i := 0) rfl ag57 sz57 rfl rfl rfl) (RV.tmp rfl) ?_
     first | (have hok : okK x gen now gr = true := (by unfold okK; grind)) | (have hno : ¬ okK x gen now gr = true := (by unfold okK; grind))
     first | rw [if_pos hok, if_pos hok] | rw [if_neg hno, if_neg hno]
     first | exact ⟨rfl, rfl⟩ | (exfalso; unfold okK at *; grind)
    ·
     refine TC.skip ?_
     refine AtX.blk ?_
     refine AtX.then ?_
     refine TC.sr ?_
     refine TL.v (Val.buildA ar57 sz24 ze57 rfl rfl) ?_
     refine TL.d (Does.store (i := 0) rfl rfl rfl sz57 rfl rfl (by first | exact Nat.le_of_ble_eq_true rfl | decide | omega) rfl rfl) ?_
     rintro _ _ ⟨rfl, rfl⟩
     refine TL.v (Val.assign rfl) ?_
     refine TL.nt ?_
     refine TC.r2 (M' := M) (fn := Tryz.f77) (fun _ _ h => h) rfl (RV.agg (i := 0) rfl ag57 sz57 rfl rfl rfl) (RV.tmp rfl) ?_
     first | (have hok : okK x gen now gr = true := (by unfold okK; grind)) | (have hno : ¬ okK x gen now gr = true := (by unfold okK; grind))
     first | rw [if_pos hok, if_pos hok] | rw [if_neg hno, if_neg hno]
     first | exact ⟨rfl, rfl⟩ | (exfalso; unfold okK at *; grind)
   | true =>
    refine TA.tkP 13 16383 rfl rfl rfl rfl rfl rfl ?_
    refine TA.tkP 14 32767 rfl rfl rfl rfl rfl rfl ?_
    refine TA.tkP 15 65535 rfl rfl rfl rfl rfl rfl ?_
    refine TA.tkP 16 131071 rfl rfl rfl rfl rfl rfl ?_
    refine TA.tkP 17 262143 rfl rfl rfl rfl rfl rfl ?_
    refine TA.tkP 18 524287 rfl rfl rfl rfl rfl rfl ?_
    refine TA.tkP 19 1048575 rfl rfl rfl rfl rfl rfl ?_
    refine TA.tkP 20 2097151 rfl rfl rfl rfl rfl rfl ?_
    refine TA.tkP 21 4194303 rfl rfl rfl rfl rfl rfl ?_
    refine TA.tkP 22 8388607 rfl rfl rfl rfl rfl rfl ?_
    refine TA.tkP 23 16777215 rfl rfl rfl rfl rfl rfl ?_
    refine TA.tkU 24 33554431 rfl rfl rfl rfl rfl ?_
    refine TA.tkU 25 67108863 rfl rfl rfl rfl rfl ?_
    refine TA.tkU 26 134217727 rfl rfl rfl rfl rfl ?_
    refine TA.tkU 27 268435455 rfl rfl rfl rfl rfl ?_
    refine TA.tkU 28 536870911 rfl rfl rfl rfl rfl ?_
    refine TA.tkU 29 1073741823 rfl rfl rfl rfl rfl ?_
    refine TA.tkU 30 2147483647 rfl rfl rfl rfl rfl ?_
    refine TA.tkU 31 4294967295 rfl rfl rfl rfl rfl ?_
    refine TA.tkU 32 8589934591 rfl rfl rfl rfl rfl ?_
    refine TA.tkU 33 17179869183 rfl rfl rfl rfl rfl ?_
    refine TA.tkU 34 34359738367 rfl rfl rfl rfl rfl ?_
    refine TA.tkU 35 68719476735 rfl rfl rfl rfl rfl ?_
    refine TA.tkU 36 137438953471 rfl rfl rfl rfl rfl ?_
    refine TA.tkU 37 274877906943 rfl rfl rfl rfl rfl ?_
    refine TA.tkP 38 549755813887 rfl rfl rfl rfl rfl rfl ?_
    refine TA.tkY 39 1099511627775 rfl rfl rfl rfl rfl (Val.pick rfl rfl rfl) ?_
    refine TA.tk 40 2199023255551 rfl rfl rfl (Val.pickAnd rfl rfl rfl) ?_
    refine TA.tk 41 4398046511103 rfl rfl rfl (Val.assign rfl) ?_
    refine TA.done (by kernel_rfl) ?_
    refine AtX.then ?_
    refine TC.en (E' := [(0, _), (1, _), (2, _), (8, _), (9, _), (23, _)]) ?_
    refine TC.cond rfl (fun c4 => ?_) (fun c4 => ?_)
    ·
     refine TC.sr ?_
     refine TL.v (Val.move rfl) ?_
     refine TL.v (Val.nilCheck rfl) ?_
     refine TL.v (Val.fieldAddr rfl fl67_0 sz24 rfl) ?_
     refine TL.v (Val.load (i + 1) rfl ag24 hi rfl) ?_
     refine TL.v (Val.move rfl) ?_
     refine TL.v (Val.move rfl) ?_
     refine TL.d (Does.callF go17 rfl (refOf_fn s (k : Nat) gen _)) ?_
     rintro _ _ ⟨rfl, rfl⟩
     refine TL.d (Does.store (i := 0) rfl rfl rfl sz57 rfl rfl (by first | exact Nat.le_of_ble_eq_true rfl | decide | omega) rfl rfl) ?_
     rintro _ _ ⟨rfl, rfl⟩
     refine TL.v (Val.assign rfl) ?_
     refine TL.nt ?_
     refine TC.en (E' := [(8, _), (9, _)]) ?_
     refine TC.r2 (M' := M) (fn := Tryz.f77) (fun _ _ h => h) rfl (RV.agg (i := 0) rfl ag57 sz57 rfl rfl rfl) (RV.tmp rfl) ?_
     first | (have hok : okK x gen now gr = true := (by unfold okK; grind)) | (have hno : ¬ okK x gen now gr = true := (by unfold okK; grind))
     first | rw [if_pos hok, if_pos hok] | rw [if_neg hno, if_neg hno]
     first | exact ⟨rfl, rfl⟩ | (exfalso; unfold okK at *; grind)
    ·
     refine TC.skip ?_
     refine AtX.blk ?_
     refine AtX.then ?_
     refine TC.sr ?_
     refine TL.v (Val.buildA ar57 sz24 ze57 rfl rfl) ?_
     refine TL.d (Does.store (i := 0) rfl rfl rfl sz57 rfl rfl (by first | exact Nat.le_of_ble_eq_true rfl | decide | omega) rfl rfl) ?_
     rintro _ _ ⟨rfl, rfl⟩
     refine TL.v (Val.assign rfl) ?_
     refine TL.nt ?_
     refine TC.r2 (M' := M) (fn := Tryz.f77) (fun _ _ h => h) rfl (RV.agg (i := 0) rfl ag57 sz57 rfl rfl rfl) (RV.tmp rfl) ?_
     first | (have hok : okK x gen now gr = true := (by unfold okK; grind)) | (have hno : ¬ okK x gen now gr = true := (by unfold okK; grind))
     first | rw [if_pos hok, if_pos hok] | rw [if_neg hno, if_neg hno]
     first | exact ⟨rfl, rfl⟩ | (exfalso; unfold okK at *; grind)

end Go.Proofs.YtphoapajlcaoeaaGreat
/- walks -/
set_option linter.unusedVariables false
set_option linter.unusedSimpArgs false
set_option maxRecDepth 100000
set_option maxHeartbeats 4000000
namespace Go.Proofs.YtphoapajlcaoeaaGreat
open Go Go.X
abbrev rsO (b : Nat) (s w g q : Int) : Nat × Obj := (b, .cells #[.int .u64 s, .int .i64 w, .int .i64 g, .int .i64 q] 112 (0, 0))
/-- quorumite/quorumiteref5.NewSealer -/
theorem refNS_fn (s : Int) (k : Int) (M : Hp) (hk : 0 ≤ k ∧ k ≤ 15) : FnC Tryz.prog 13 #[.int .u64 s, .int .i64 k] M (fun v M' => ∃ b, v = .pointer (some ⟨b, 0, none⟩) ∧ M' = rsO b s k 0 0 :: M) := by
 refine FnC.intro Tryz.func13 rfl 15 rfl (by simp) (fun z => ?_)
 refine TC.en (E' := [(0, _), (1, _)]) ?_
 refine TC.sr ?_
 refine TL.v (Val.assign rfl) ?_
 refine TL.nt ?_
 refine TC.seq ?_
 refine TC.sr ?_
 refine TL.v (Val.move rfl) ?_
 refine TL.v (Val.lss rfl rfl) ?_
 refine TL.v (Val.move rfl) ?_
 refine TL.gen (fun g1 hg1 => ?_)
 refine TL.gv rfl rfl rfl (fun hg => by subst hg; exact (Val.move rfl)) ?_
 refine TL.gv rfl rfl rfl (fun hg => by subst hg; exact (Val.gtr rfl rfl)) ?_
 refine TL.v (Val.pickOr rfl rfl rfl) ?_
 refine TL.nt ?_
 refine TC.cond rfl (fun c1 => ?_) (fun c1 => ?_)
 ·
  (exfalso; grind)
 ·
  refine TC.skip ?_
  refine AtX.then ?_
  refine TC.sr ?_
  refine TL.v (Val.move rfl) ?_
  refine TL.v (Val.move rfl) ?_
  refine TL.v (Val.buildS pl112 ze112 rfl rfl) ?_
  refine TL.d (Does.box rfl rfl) ?_
  rintro _ _ ⟨b2, rfl, rfl⟩
  refine TL.v (Val.assign rfl) ?_
  refine TL.nt ?_
  refine TC.en (E' := [(4, _)]) ?_
  refine TC.r1 (hM := (fun _ h => h)) (fn := Tryz.f13) (fun _ _ h => h) rfl (RV.tmp rfl) ?_
  exact ⟨_, rfl, rfl⟩

/-- (*quorumite/quorumiteref5.Sealer).next -/
theorem refnext_yes (b i : Nat) (s w g q : Int) (M : Hp) (hi : M[i]? = some (rsO b s w g q)) (hq : 0 ≤ q ∧ q ≤ 1099511627776) (m : Ms) (hm : mayM ⟨m.kind, w, m.gen, q + 1, m.epoch, m.value, m.metric⟩ = true) : FnC Tryz.prog 47 #[.pointer (some ⟨b, 0, none⟩), .agg #[.int .i64 m.kind, .int .i64 m.who, .int .i64 m.gen, .int .i64 m.seq, .int .i64 m.epoch, .int .i64 m.value, .int .i64 m.metric]] M (fun v M' => v = .tuple #[.string (ofL (sealB (macKey s w g) ⟨m.kind, w, m.gen, q + 1, m.epoch, m.value, m.metric⟩)), .int .i64 0] ∧ M' = M.set i (rsO b s w g (q + 1))) := by
 refine FnC.intro Tryz.func47 rfl 48 rfl (by simp) (fun z => ?_)
 refine TC.en (E' := [(0, _), (1, _)]) ?_
 refine TC.sr ?_
 refine TL.d (Does.box rfl rfl) ?_
 rintro _ _ ⟨b1, rfl, rfl⟩
 refine TL.v (Val.assign rfl) ?_
 refine TL.v (Val.assign rfl) ?_
 refine TL.nt ?_
 refine TC.seq ?_
 refine TC.drawL M mixed 13 ?_
 refine TA.tk 0 1 rfl rfl rfl (Val.move rfl) ?_ (hro := ro_s)
 refine TA.tk 1 3 rfl rfl rfl (Val.nilCheck rfl) ?_ (hro := ro_s)
 refine TA.tk 2 7 rfl rfl rfl (Val.fieldAddr rfl fl112_1 sz3 rfl) ?_ (hro := ro_s)
 refine TA.tk 3 15 rfl rfl rfl (Val.load i rfl ag3 hi rfl) ?_ (hro := ro_s)
 refine TA.tk 4 31 rfl rfl rfl (Val.move rfl) ?_ (hro := ro_s)
 refine TA.tk 5 63 rfl rfl rfl (Val.nilCheck rfl) ?_ (hro := ro_s)
 refine TA.tk 6 127 rfl rfl rfl (Val.fieldAddr rfl fl112_3 sz2 rfl) ?_ (hro := ro_s)
 refine TA.tk 7 255 rfl rfl rfl (Val.load i rfl ag2 hi rfl) ?_ (hro := ro_s)
 refine TA.tk 8 511 rfl rfl rfl (Val.add rfl rfl (r := q + 1) (w_i64 (by omega) (by omega))) ?_ (hro := ro_s)
 refine TA.tk 9 1023 rfl rfl rfl (Val.fieldAddr rfl fl39_1 sz3 rfl) ?_ (hro := ro_s)
 refine TA.one 10 (by kernel_rfl) ?_
 refine TO.dz 2047 none rfl rfl rfl rfl (Does.store (i := 0) rfl rfl rfl sz3 rfl rfl (by first | exact Nat.le_of_ble_eq_true rfl | decide | omega) rfl rfl) ?_
 rintro _ _ ⟨rfl, rfl⟩
 refine ⟨ro_s, ?_⟩
 refine TA.tk 11 4095 rfl rfl rfl (Val.fieldAddr rfl fl39_3 sz2 rfl) ?_ (hro := ro_s)
 refine TA.one 12 (by kernel_rfl) ?_
 refine TO.dz 8191 none rfl rfl rfl rfl (Does.store (i := 0) rfl rfl rfl sz2 rfl rfl (by first | exact Nat.le_of_ble_eq_true rfl | decide | omega) rfl rfl) ?_
 rintro _ _ ⟨rfl, rfl⟩
 refine ⟨ro_s, ?_⟩
 refine TA.done (by kernel_rfl) ?_
 refine AtX.then ?_
 refine TC.en (E' := [(0, _), (3, _), (4, _), (5, _)]) ?_
 refine TC.seq ?_
 refine TC.heap (M' := (b1, .cells #[.int .i64 m.kind, .int .i64 w, .int .i64 m.gen, .int .i64 (q + 1), .int .i64 m.epoch, .int .i64 m.value, .int .i64 m.metric] 39 (0, 0)) :: M) (fun w h => h) ?_
 refine TC.drawLM mixed 20 ?_
 refine TA.tk 0 1 rfl rfl rfl (Val.move rfl) ?_
 refine TA.tk 1 3 rfl rfl rfl (Val.nilCheck rfl) ?_
 refine TA.tk 2 7 rfl rfl rfl (Val.fieldAddr rfl fl112_0 sz24 rfl) ?_
 refine TA.tk 3 15 rfl rfl rfl (Val.load (i + 1) rfl ag24 hi rfl) ?_
 refine TA.tk 4 31 rfl rfl rfl (Val.move rfl) ?_
 refine TA.tk 5 63 rfl rfl rfl (Val.nilCheck rfl) ?_
 refine TA.tk 6 127 rfl rfl rfl (Val.fieldAddr rfl fl112_1 sz3 rfl) ?_
 refine TA.tk 7 255 rfl rfl rfl (Val.load (i + 1) rfl ag3 hi rfl) ?_
 refine TA.tk 8 511 rfl rfl rfl (Val.move rfl) ?_
 refine TA.tk 9 1023 rfl rfl rfl (Val.nilCheck rfl) ?_
 refine TA.tk 10 2047 rfl rfl rfl (Val.fieldAddr rfl fl112_2 sz3 rfl) ?_
 refine TA.tk 11 4095 rfl rfl rfl (Val.load (i + 1) rfl ag3 hi rfl) ?_
 refine TA.tk 13 12287 rfl rfl rfl (Val.loadAgg 0 rfl ag39 sz39 rfl rfl rfl) ?_
 refine TA.one 12 (by kernel_rfl) ?_
 refine TO.dz 16383 (some 32) rfl rfl rfl rfl (Does.callF go17 rfl (refOf_fn s w g _)) ?_
 rintro _ _ ⟨rfl, rfl⟩
 refine roK ?_
 refine TA.one 14 (by kernel_rfl) ?_
 refine TO.dz 32767 (some 34) rfl rfl rfl rfl (Does.callF go16 rfl (refSeal_yes (macKey s w g) ⟨m.kind, w, m.gen, q + 1, m.epoch, m.value, m.metric⟩ _ hm)) ?_
 rintro _ _ ⟨rfl, rfl⟩
 refine roK ?_
 refine TA.tk 15 65535 rfl rfl rfl (Val.move rfl) ?_
 refine TA.tk 16 131071 rfl rfl rfl (Val.extract rfl rfl) ?_
 refine TA.tk 17 262143 rfl rfl rfl (Val.extract rfl rfl) ?_
 refine TA.tk 18 524287 rfl rfl rfl (Val.assign rfl) ?_
 refine TA.tk 19 1048575 rfl rfl rfl (Val.assign rfl) ?_
 refine TA.done (by kernel_rfl) ?_
 refine AtX.then ?_
 refine TC.en (E' := [(0, _), (4, _), (5, _), (6, _), (7, _)]) ?_
 refine TC.seq ?_
 refine TC.sr ?_
 refine TL.v (Val.move rfl) ?_
 refine TL.v (Val.eqlI rfl rfl) ?_
 refine TL.nt ?_
 refine TC.condP rfl (fun c1 => ?_) (fun c1 => ?_)
 ·
  refine TC.region ?_
  refine TL.v (Val.move rfl) ?_
  refine TL.v (Val.nilCheck rfl) ?_
  refine TL.v (Val.fieldAddr rfl fl112_3 sz2 rfl) ?_
  refine TL.v (Val.load (i + 1) rfl ag2 hi rfl) ?_
  refine TL.v (Val.add rfl rfl (r := q + 1) (w_i64 (by omega) (by omega))) ?_
  refine TL.v (Val.nilCheck rfl) ?_
  refine TL.v (Val.fieldAddr rfl fl112_3 sz2 rfl) ?_
  refine TL.d (Does.store (i := i + 1) rfl rfl hi sz2 rfl rfl (by exact Nat.le_of_ble_eq_true rfl) rfl rfl) ?_
  rintro _ _ ⟨rfl, rfl⟩
  refine TL.nt ?_
  refine TC.en (E' := [(4, _), (5, _), (6, _), (7, _)]) ?_
  refine TC.sr ?_
  refine TL.v (Val.move rfl) ?_
  refine TL.v (Val.move rfl) ?_
  refine TL.v (Val.assign rfl) ?_
  refine TL.v (Val.assign rfl) ?_
  refine TL.nt ?_
  refine TC.r2 (hM := (fun w' h => Own.drop (b := b1) h)) (M' := M.set i (rsO b s w g (q + 1))) (fn := Tryz.f47) (fun _ _ h => h) rfl (RV.tmp rfl) (RV.tmp rfl) ?_
  exact ⟨rfl, rfl⟩
 ·
  exact absurd rfl c1

/-- (*quorumite/quorumiteref5.Sealer).next -/
theorem refnext_no (b i : Nat) (s w g q : Int) (M : Hp) (hi : M[i]? = some (rsO b s w g q)) (hq : 0 ≤ q ∧ q ≤ 1099511627776) (m : Ms) (hm : mayM ⟨m.kind, w, m.gen, q + 1, m.epoch, m.value, m.metric⟩ = false) : FnC Tryz.prog 47 #[.pointer (some ⟨b, 0, none⟩), .agg #[.int .i64 m.kind, .int .i64 m.who, .int .i64 m.gen, .int .i64 m.seq, .int .i64 m.epoch, .int .i64 m.value, .int .i64 m.metric]] M (fun v M' => v = .tuple #[.string (ofL []), .int .i64 1] ∧ M = M') := by
 refine FnC.intro Tryz.func47 rfl 48 rfl (by simp) (fun z => ?_)
 refine TC.en (E' := [(0, _), (1, _)]) ?_
 refine TC.sr ?_
 refine TL.d (Does.box rfl rfl) ?_
 rintro _ _ ⟨b1, rfl, rfl⟩
 refine TL.v (Val.assign rfl) ?_
 refine TL.v (Val.assign rfl) ?_
 refine TL.nt ?_
 refine TC.seq ?_
 refine TC.drawL M mixed 13 ?_
 refine TA.tk 0 1 rfl rfl rfl (Val.move rfl) ?_ (hro := ro_s)
 refine TA.tk 1 3 rfl rfl rfl (Val.nilCheck rfl) ?_ (hro := ro_s)
 refine TA.tk 2 7 rfl rfl rfl (Val.fieldAddr rfl fl112_1 sz3 rfl) ?_ (hro := ro_s)
 refine TA.tk 3 15 rfl rfl rfl (Val.load i rfl ag3 hi rfl) ?_ (hro := ro_s)
 refine TA.tk 4 31 rfl rfl rfl (Val.move rfl) ?_ (hro := ro_s)
 refine TA.tk 5 63 rfl rfl rfl (Val.nilCheck rfl) ?_ (hro := ro_s)
 refine TA.tk 6 127 rfl rfl rfl (Val.fieldAddr rfl fl112_3 sz2 rfl) ?_ (hro := ro_s)
 refine TA.tk 7 255 rfl rfl rfl (Val.load i rfl ag2 hi rfl) ?_ (hro := ro_s)
 refine TA.tk 8 511 rfl rfl rfl (Val.add rfl rfl (r := q + 1) (w_i64 (by omega) (by omega))) ?_ (hro := ro_s)
 refine TA.tk 9 1023 rfl rfl rfl (Val.fieldAddr rfl fl39_1 sz3 rfl) ?_ (hro := ro_s)
 refine TA.one 10 (by kernel_rfl) ?_
 refine TO.dz 2047 none rfl rfl rfl rfl (Does.store (i := 0) rfl rfl rfl sz3 rfl rfl (by first | exact Nat.le_of_ble_eq_true rfl | decide | omega) rfl rfl) ?_
 rintro _ _ ⟨rfl, rfl⟩
 refine ⟨ro_s, ?_⟩
 refine TA.tk 11 4095 rfl rfl rfl (Val.fieldAddr rfl fl39_3 sz2 rfl) ?_ (hro := ro_s)
 refine TA.one 12 (by kernel_rfl) ?_
 refine TO.dz 8191 none rfl rfl rfl rfl (Does.store (i := 0) rfl rfl rfl sz2 rfl rfl (by first | exact Nat.le_of_ble_eq_true rfl | decide | omega) rfl rfl) ?_
 rintro _ _ ⟨rfl, rfl⟩
 refine ⟨ro_s, ?_⟩
 refine TA.done (by kernel_rfl) ?_
 refine AtX.then ?_
 refine TC.en (E' := [(0, _), (3, _), (4, _), (5, _)]) ?_
 refine TC.seq ?_
 refine TC.heap (M' := (b1, .cells #[.int .i64 m.kind, .int .i64 w, .int .i64 m.gen, .int .i64 (q + 1), .int .i64 m.epoch, .int .i64 m.value, .int .i64 m.metric] 39 (0, 0)) :: M) (fun w h => h) ?_
 refine TC.drawLM mixed 20 ?_
 refine TA.tk 0 1 rfl rfl rfl (Val.move rfl) ?_
 refine TA.tk 1 3 rfl rfl rfl (Val.nilCheck rfl) ?_
 refine TA.tk 2 7 rfl rfl rfl (Val.fieldAddr rfl fl112_0 sz24 rfl) ?_
 refine TA.tk 3 15 rfl rfl rfl (Val.load (i + 1) rfl ag24 hi rfl) ?_
 refine TA.tk 4 31 rfl rfl rfl (Val.move rfl) ?_
 refine TA.tk 5 63 rfl rfl rfl (Val.nilCheck rfl) ?_
 refine TA.tk 6 127 rfl rfl rfl (Val.fieldAddr rfl fl112_1 sz3 rfl) ?_
 refine TA.tk 7 255 rfl rfl rfl (Val.load (i + 1) rfl ag3 hi rfl) ?_
 refine TA.tk 8 511 rfl rfl rfl (Val.move rfl) ?_
 refine TA.tk 9 1023 rfl rfl rfl (Val.nilCheck rfl) ?_
 refine TA.tk 10 2047 rfl rfl rfl (Val.fieldAddr rfl fl112_2 sz3 rfl) ?_
 refine TA.tk 11 4095 rfl rfl rfl (Val.load (i + 1) rfl ag3 hi rfl) ?_
 refine TA.tk 13 12287 rfl rfl rfl (Val.loadAgg 0 rfl ag39 sz39 rfl rfl rfl) ?_
 refine TA.one 12 (by kernel_rfl) ?_
 refine TO.dz 16383 (some 32) rfl rfl rfl rfl (Does.callF go17 rfl (refOf_fn s w g _)) ?_
 rintro _ _ ⟨rfl, rfl⟩
 refine roK ?_
 refine TA.one 14 (by kernel_rfl) ?_
 refine TO.dz 32767 (some 34) rfl rfl rfl rfl (Does.callF go16 rfl (refSeal_no (macKey s w g) ⟨m.kind, w, m.gen, q + 1, m.epoch, m.value, m.metric⟩ _ hm)) ?_
 rintro _ _ ⟨rfl, rfl⟩
 refine roK ?_
 refine TA.tk 15 65535 rfl rfl rfl (Val.move rfl) ?_
 refine TA.tk 16 131071 rfl rfl rfl (Val.extract rfl rfl) ?_
 refine TA.tk 17 262143 rfl rfl rfl (Val.extract rfl rfl) ?_
 refine TA.tk 18 524287 rfl rfl rfl (Val.assign rfl) ?_
 refine TA.tk 19 1048575 rfl rfl rfl (Val.assign rfl) ?_
 refine TA.done (by kernel_rfl) ?_
 refine AtX.then ?_
 refine TC.en (E' := [(0, _), (4, _), (5, _), (6, _), (7, _)]) ?_
 refine TC.seq ?_
 refine TC.sr ?_
 refine TL.v (Val.move rfl) ?_
 refine TL.v (Val.eqlI rfl rfl) ?_
 refine TL.nt ?_
 refine TC.condP rfl (fun c1 => ?_) (fun c1 => ?_)
 ·
  exact absurd c1 (by decide)
 ·
  refine TC.skip ?_
  refine AtX.then ?_
  refine TC.sr ?_
  refine TL.v (Val.move rfl) ?_
  refine TL.v (Val.move rfl) ?_
  refine TL.v (Val.assign rfl) ?_
  refine TL.v (Val.assign rfl) ?_
  refine TL.nt ?_
  refine TC.r2 (M' := M) (fn := Tryz.f47) (fun _ _ h => h) rfl (RV.tmp rfl) (RV.tmp rfl) ?_
  exact ⟨rfl, rfl⟩

/-- (*quorumite/quorumiteref5.Sealer).Sample -/
theorem refSS_yes (b i : Nat) (s w g q : Int) (M : Hp) (hi : M[i]? = some (rsO b s w g q)) (hq : 0 ≤ q ∧ q ≤ 1099511627776) (me e v : Int) (hm : mayM ⟨1, w, g, q + 1, e, v, me⟩ = true) : FnC Tryz.prog 14 #[.pointer (some ⟨b, 0, none⟩), .int .i64 me, .int .i64 e, .int .i64 v] M (fun u M' => u = .tuple #[.string (ofL (sealB (macKey s w g) ⟨1, w, g, q + 1, e, v, me⟩)), .int .i64 0] ∧ M' = M.set i (rsO b s w g (q + 1))) := by
 refine FnC.intro Tryz.func14 rfl 22 rfl (by simp) (fun z => ?_)
 refine TC.en (E' := [(0, _), (1, _), (2, _), (3, _)]) ?_
 refine TC.sr ?_
 refine TL.v (Val.assign rfl) ?_
 refine TL.v (Val.assign rfl) ?_
 refine TL.nt ?_
 refine TC.sr ?_
 refine TL.v (Val.move rfl) ?_
 refine TL.v (Val.move rfl) ?_
 refine TL.v (Val.nilCheck rfl) ?_
 refine TL.v (Val.fieldAddr rfl fl112_2 sz3 rfl) ?_
 refine TL.v (Val.load i rfl ag3 hi rfl) ?_
 refine TL.v (Val.move rfl) ?_
 refine TL.v (Val.move rfl) ?_
 refine TL.v (Val.move rfl) ?_
 refine TL.v (Val.buildS pl39 ze39 rfl rfl) ?_
 refine TL.d (Does.callF go47 rfl (refnext_yes b i s w g q _ hi hq ⟨1, 0, g, 0, e, v, me⟩ hm)) ?_
 rintro _ _ ⟨rfl, rfl⟩
 refine TL.v (Val.extract rfl rfl) ?_
 refine TL.v (Val.extract rfl rfl) ?_
 refine TL.v (Val.assign rfl) ?_
 refine TL.v (Val.assign rfl) ?_
 refine TL.nt ?_
 refine TC.en (E' := [(8, _), (9, _)]) ?_
 refine TC.r2 (hM := (fun _ h => h)) (fn := Tryz.f14) (fun _ _ h => h) rfl (RV.tmp rfl) (RV.tmp rfl) ?_
 exact ⟨rfl, rfl⟩

/-- (*quorumite/quorumiteref5.Sealer).Sample -/
theorem refSS_no (b i : Nat) (s w g q : Int) (M : Hp) (hi : M[i]? = some (rsO b s w g q)) (hq : 0 ≤ q ∧ q ≤ 1099511627776) (me e v : Int) (hm : mayM ⟨1, w, g, q + 1, e, v, me⟩ = false) : FnC Tryz.prog 14 #[.pointer (some ⟨b, 0, none⟩), .int .i64 me, .int .i64 e, .int .i64 v] M (fun u M' => u = .tuple #[.string (ofL []), .int .i64 1] ∧ M = M') := by
 refine FnC.intro Tryz.func14 rfl 22 rfl (by simp) (fun z => ?_)
 refine TC.en (E' := [(0, _), (1, _), (2, _), (3, _)]) ?_
 refine TC.sr ?_
 refine TL.v (Val.assign rfl) ?_
 refine TL.v (Val.assign rfl) ?_
 refine TL.nt ?_
 refine TC.sr ?_
 refine TL.v (Val.move rfl) ?_
 refine TL.v (Val.move rfl) ?_
 refine TL.v (Val.nilCheck rfl) ?_
 refine TL.v (Val.fieldAddr rfl fl112_2 sz3 rfl) ?_
 refine TL.v (Val.load i rfl ag3 hi rfl) ?_
 refine TL.v (Val.move rfl) ?_
 refine TL.v (Val.move rfl) ?_
 refine TL.v (Val.move rfl) ?_
 refine TL.v (Val.buildS pl39 ze39 rfl rfl) ?_
 refine TL.d (Does.callF go47 rfl (refnext_no b i s w g q _ hi hq ⟨1, 0, g, 0, e, v, me⟩ hm)) ?_
 rintro _ _ ⟨rfl, rfl⟩
 refine TL.v (Val.extract rfl rfl) ?_
 refine TL.v (Val.extract rfl rfl) ?_
 refine TL.v (Val.assign rfl) ?_
 refine TL.v (Val.assign rfl) ?_
 refine TL.nt ?_
 refine TC.en (E' := [(8, _), (9, _)]) ?_
 refine TC.r2 (hM := (fun _ h => h)) (fn := Tryz.f14) (fun _ _ h => h) rfl (RV.tmp rfl) (RV.tmp rfl) ?_
 exact ⟨rfl, rfl⟩

/-- (*quorumite/quorumiteref5.Sealer).Rotate -/
theorem refSR_yes (b i : Nat) (s w g q : Int) (M : Hp) (hi : M[i]? = some (rsO b s w g q)) (hq : 0 ≤ q ∧ q ≤ 1099511627776) (hg : -1 ≤ g ∧ g ≤ 1000000) (e : Int) (hm : mayM ⟨2, w, g + 1, q + 1, e, 0, 0⟩ = true) : FnC Tryz.prog 15 #[.pointer (some ⟨b, 0, none⟩), .int .i64 e] M (fun u M' => u = .tuple #[.string (ofL (sealB (macKey s w g) ⟨2, w, g + 1, q + 1, e, 0, 0⟩)), .int .i64 0] ∧ M' = M.set i (rsO b s w (g + 1) 0)) := by
 refine FnC.intro Tryz.func15 rfl 35 rfl (by simp) (fun z => ?_)
 refine TC.en (E' := [(0, _), (1, _)]) ?_
 refine TC.sr ?_
 refine TL.v (Val.assign rfl) ?_
 refine TL.v (Val.assign rfl) ?_
 refine TL.nt ?_
 refine TC.sr ?_
 refine TL.v (Val.move rfl) ?_
 refine TL.v (Val.move rfl) ?_
 refine TL.v (Val.nilCheck rfl) ?_
 refine TL.v (Val.fieldAddr rfl fl112_2 sz3 rfl) ?_
 refine TL.v (Val.load i rfl ag3 hi rfl) ?_
 refine TL.v (Val.add rfl rfl (r := g + 1) (w_i64 (by omega) (by omega))) ?_
 refine TL.v (Val.move rfl) ?_
 refine TL.v (Val.buildS pl39 ze39 rfl rfl) ?_
 refine TL.d (Does.callF go47 rfl (refnext_yes b i s w g q _ hi hq ⟨2, 0, g + 1, 0, e, 0, 0⟩ hm)) ?_
 rintro _ _ ⟨rfl, rfl⟩
 refine TL.v (Val.move rfl) ?_
 refine TL.v (Val.extract rfl rfl) ?_
 refine TL.v (Val.extract rfl rfl) ?_
 refine TL.v (Val.assign rfl) ?_
 refine TL.v (Val.assign rfl) ?_
 refine TL.nt ?_
 refine TC.en (E' := [(0, _), (4, _), (5, _), (6, _), (7, _)]) ?_
 refine TC.seq ?_
 refine TC.sr ?_
 refine TL.v (Val.move rfl) ?_
 refine TL.v (Val.eqlI rfl rfl) ?_
 refine TL.nt ?_
 refine TC.condP rfl (fun c1 => ?_) (fun c1 => ?_)
 ·
  have hlt : i < M.length := (List.getElem?_eq_some_iff.1 hi).1
  have hi2 : (M.set i (rsO b s w g (q + 1)))[i]? = some (rsO b s w g (q + 1)) := List.getElem?_set_self hlt
  refine TC.region ?_
  refine TL.v (Val.move rfl) ?_
  refine TL.v (Val.move rfl) ?_
  refine TL.v (Val.move rfl) ?_
  refine TL.v (Val.nilCheck rfl) ?_
  refine TL.v (Val.fieldAddr rfl fl112_2 sz3 rfl) ?_
  refine TL.v (Val.load i rfl ag3 hi2 rfl) ?_
  refine TL.v (Val.add rfl rfl (r := g + 1) (w_i64 (by omega) (by omega))) ?_
  refine TL.v (Val.nilCheck rfl) ?_
  refine TL.v (Val.fieldAddr rfl fl112_2 sz3 rfl) ?_
  refine TL.d (Does.store (i := i) rfl rfl hi2 sz3 rfl rfl (by exact Nat.le_of_ble_eq_true rfl) rfl rfl) ?_
  rintro _ _ ⟨rfl, rfl⟩
  rw [List.set_set]
  have hi3 : (M.set i (rsO b s w (g + 1) (q + 1)))[i]? = some (rsO b s w (g + 1) (q + 1)) := List.getElem?_set_self hlt
  refine TL.v (Val.nilCheck rfl) ?_
  refine TL.v (Val.fieldAddr rfl fl112_3 sz2 rfl) ?_
  refine TL.d (Does.store (i := i) rfl rfl hi3 sz2 rfl rfl (by exact Nat.le_of_ble_eq_true rfl) rfl rfl) ?_
  rintro _ _ ⟨rfl, rfl⟩
  rw [List.set_set]
  refine TL.nt ?_
  refine TC.en (E' := [(4, _), (5, _), (6, _), (7, _)]) ?_
  refine TC.sr ?_
  refine TL.v (Val.move rfl) ?_
  refine TL.v (Val.move rfl) ?_
  refine TL.v (Val.assign rfl) ?_
  refine TL.v (Val.assign rfl) ?_
  refine TL.nt ?_
  refine TC.r2 (hM := (fun _ h => h)) (fn := Tryz.f15) (fun _ _ h => h) rfl (RV.tmp rfl) (RV.tmp rfl) ?_
  exact ⟨rfl, rfl⟩
 ·
  exact absurd rfl c1

/-- (*quorumite/quorumiteref5.Sealer).Rotate -/
theorem refSR_no (b i : Nat) (s w g q : Int) (M : Hp) (hi : M[i]? = some (rsO b s w g q)) (hq : 0 ≤ q ∧ q ≤ 1099511627776) (hg : -1 ≤ g ∧ g ≤ 1000000) (e : Int) (hm : mayM ⟨2, w, g + 1, q + 1, e, 0, 0⟩ = false) : FnC Tryz.prog 15 #[.pointer (some ⟨b, 0, none⟩), .int .i64 e] M (fun u M' => u = .tuple #[.string (ofL []), .int .i64 1] ∧ M = M') := by
 refine FnC.intro Tryz.func15 rfl 35 rfl (by simp) (fun z => ?_)
 refine TC.en (E' := [(0, _), (1, _)]) ?_
 refine TC.sr ?_
 refine TL.v (Val.assign rfl) ?_
 refine TL.v (Val.assign rfl) ?_
 refine TL.nt ?_
 refine TC.sr ?_
 refine TL.v (Val.move rfl) ?_
 refine TL.v (Val.move rfl) ?_
 refine TL.v (Val.nilCheck rfl) ?_
 refine TL.v (Val.fieldAddr rfl fl112_2 sz3 rfl) ?_
 refine TL.v (Val.load i rfl ag3 hi rfl) ?_
 refine TL.v (Val.add rfl rfl (r := g + 1) (w_i64 (by omega) (by omega))) ?_
 refine TL.v (Val.move rfl) ?_
 refine TL.v (Val.buildS pl39 ze39 rfl rfl) ?_
 refine TL.d (Does.callF go47 rfl (refnext_no b i s w g q _ hi hq ⟨2, 0, g + 1, 0, e, 0, 0⟩ hm)) ?_
 rintro _ _ ⟨rfl, rfl⟩
 refine TL.v (Val.move rfl) ?_
 refine TL.v (Val.extract rfl rfl) ?_
 refine TL.v (Val.extract rfl rfl) ?_
 refine TL.v (Val.assign rfl) ?_
 refine TL.v (Val.assign rfl) ?_
 refine TL.nt ?_
 refine TC.en (E' := [(0, _), (4, _), (5, _), (6, _), (7, _)]) ?_
 refine TC.seq ?_
 refine TC.sr ?_
 refine TL.v (Val.move rfl) ?_
 refine TL.v (Val.eqlI rfl rfl) ?_
 refine TL.nt ?_
 refine TC.condP rfl (fun c1 => ?_) (fun c1 => ?_)
 ·
  exact absurd c1 (by decide)
 ·
  refine TC.skip ?_
  refine AtX.then ?_
  refine TC.sr ?_
  refine TL.v (Val.move rfl) ?_
  refine TL.v (Val.move rfl) ?_
  refine TL.v (Val.assign rfl) ?_
  refine TL.v (Val.assign rfl) ?_
  refine TL.nt ?_
  refine TC.r2 (hM := (fun _ h => h)) (fn := Tryz.f15) (fun _ _ h => h) rfl (RV.tmp rfl) (RV.tmp rfl) ?_
  exact ⟨rfl, rfl⟩

end Go.Proofs.YtphoapajlcaoeaaGreat
/- walks -/
set_option linter.unusedVariables false
set_option linter.unusedSimpArgs false
set_option maxRecDepth 100000
set_option maxHeartbeats 4000000
namespace Go.Proofs.YtphoapajlcaoeaaGreat
open Go Go.X
theorem ts_nth {c : Cf} {k : Nat} {x : Int} (h : c.ts[k]? = some x) : nth (#[.int .i64 (c.n), .int .i64 (c.f), .int .i64 (c.m), .int .i64 (c.quorum), .int .i64 (c.fresh), .int .i64 (c.grace), .int .i64 (c.window), .int .i64 (c.t0), .int .i64 (c.t1), .int .i64 (c.t2), .int .i64 (c.t3), .int .i64 (c.tol), .int .i64 (c.min), .int .i64 (c.max), .int .i64 (c.calmup), .int .i64 (c.calmdown), .int .i64 (c.podsup), .int .i64 (c.pctup), .int .i64 (c.podsdown), .int .i64 (c.pctdown), .int .i64 (c.period), .int .i64 (c.far), .int .i64 (c.strikes), .int .i64 (c.probe), .int .i64 (c.sectors), .int .u64 (c.seed)]).toList (7 + k) = some (.int .i64 x) := by
 match k, h with
 | 0, h => cases h; rfl
 | 1, h => cases h; rfl
 | 2, h => cases h; rfl
 | 3, h => cases h; rfl
 | k + 4, h => simp [Cf.ts] at h
/-- quorumite/quorumiteref1.targets -/
theorem reftargets_fn (c : Cf) (M : Hp) (ht : tg c) : FnC Tryz.prog 87 #[.agg #[.int .i64 (c.n), .int .i64 (c.f), .int .i64 (c.m), .int .i64 (c.quorum), .int .i64 (c.fresh), .int .i64 (c.grace), .int .i64 (c.window), .int .i64 (c.t0), .int .i64 (c.t1), .int .i64 (c.t2), .int .i64 (c.t3), .int .i64 (c.tol), .int .i64 (c.min), .int .i64 (c.max), .int .i64 (c.calmup), .int .i64 (c.calmdown), .int .i64 (c.podsup), .int .i64 (c.pctup), .int .i64 (c.podsdown), .int .i64 (c.pctdown), .int .i64 (c.period), .int .i64 (c.far), .int .i64 (c.strikes), .int .i64 (c.probe), .int .i64 (c.sectors), .int .u64 (c.seed)]] M (fun v M' => v = .bool true ∧ M = M') := by
 refine FnC.intro Tryz.func87 rfl 39 rfl (by simp) (fun z => ?_)
 refine TC.en (E' := [(0, _)]) ?_
 refine TC.sr ?_
 refine TL.d (Does.box rfl rfl) ?_
 rintro _ _ ⟨b1, rfl, rfl⟩
 refine TL.v (Val.assign rfl) ?_
 refine TL.nt ?_
 refine TC.seq ?_
 refine TC.sr ?_
 refine TL.v (Val.assign rfl) ?_
 refine TL.nt ?_
 refine TC.block ?_
 refine TC.loop (ι := Nat) (fun k => [(1, .pointer (some ⟨b1, 0, none⟩)), (3, .int .i64 (k : Nat))]) (fun _ => (b1, .cells #[.int .i64 (c.n), .int .i64 (c.f), .int .i64 (c.m), .int .i64 (c.quorum), .int .i64 (c.fresh), .int .i64 (c.grace), .int .i64 (c.window), .int .i64 (c.t0), .int .i64 (c.t1), .int .i64 (c.t2), .int .i64 (c.t3), .int .i64 (c.tol), .int .i64 (c.min), .int .i64 (c.max), .int .i64 (c.calmup), .int .i64 (c.calmdown), .int .i64 (c.podsup), .int .i64 (c.pctup), .int .i64 (c.podsdown), .int .i64 (c.pctdown), .int .i64 (c.period), .int .i64 (c.far), .int .i64 (c.strikes), .int .i64 (c.probe), .int .i64 (c.sectors), .int .u64 (c.seed)] 26 (0, 0)) :: M) (fun k => k ≤ 4) (fun k => 4 - k) 0 ?_ (Sub.cons rfl (Sub.cons rfl (Sub.nil _))) (fun _ h => h) ?_
 · exact Nat.zero_le _
 intro k hk
 refine TC.seq ?_
 refine TC.sr ?_
 refine TL.v (Val.move rfl) ?_
 refine TL.v (Val.lss rfl rfl) ?_
 refine TL.nt ?_
 refine TC.condP rfl (fun c1 => ?_) (fun c1 => ?_)
 ·
  refine TC.skip ?_
  refine AtX.then ?_
  refine TC.seq ?_
  refine TC.block ?_
  refine TC.seq ?_
  have hk4 : k < 4 := by omega
  obtain ⟨x, hx⟩ : ∃ x, c.ts[k]? = some x := ⟨_, List.getElem?_eq_getElem (by show k < 4; omega)⟩
  have hx2 := ht k x hx
  refine TC.region ?_
  refine TL.v (Val.move rfl) ?_
  refine TL.v (Val.fieldAddr rfl fl26_2 sz3 rfl) ?_
  refine TL.v (Val.load 0 rfl ag3 rfl rfl) ?_
  refine TL.v (Val.lss rfl rfl) ?_
  refine TL.v (Val.move rfl) ?_
  refine TL.gen (fun g2 hg2 => ?_)
  cases g2 with
  | false =>
   refine TL.pa ?_
   refine TL.pa ?_
   refine TL.pa ?_
   refine TL.pa ?_
   refine TL.pa ?_
   refine TL.pa ?_
   refine TL.pu ?_
   refine TL.pu ?_
   refine TL.pu ?_
   refine TL.pu ?_
   refine TL.pu ?_
   refine TL.pa ?_
   refine TL.v (Val.pick rfl rfl rfl) ?_
   refine TL.v (Val.move rfl) ?_
   refine TL.gen (fun g3 hg3 => ?_)
   cases g3 with
   | false =>
    refine TL.vy (Val.move rfl) ?_
    refine TL.vy (Val.fieldAddr rfl fl26_2 sz3 rfl) ?_
    refine TL.vy (Val.load 0 rfl ag3 rfl rfl) ?_
    refine TL.vy (Val.geq rfl rfl) ?_
    refine TL.vy (Val.move rfl) ?_
    refine TL.gen (fun g4 hg4 => ?_)
    refine TL.gv rfl rfl rfl (fun hg => by subst hg; exact (Val.move rfl)) ?_
    refine TL.gv rfl rfl rfl (fun hg => by subst hg; exact (Val.fieldAddr rfl fl26_7 sz23 rfl)) ?_
    refine TL.gv rfl rfl rfl (fun hg => by subst hg; exact (Val.indexAddrA (i := k) (r := 7 + k) rfl rfl ar23 sz2 rfl hk4 (by omega))) ?_
    refine TL.gv rfl rfl rfl (fun hg => by subst hg; exact (Val.load 0 rfl ag2 rfl (v := .int .i64 x) (ts_nth hx))) ?_
    refine TL.gv rfl rfl rfl (fun hg => by subst hg; exact (Val.neqI rfl rfl)) ?_
    refine TL.vy (Val.pickAnd rfl rfl rfl) ?_
    refine TL.v (Val.pickOr rfl rfl rfl) ?_
    refine TL.nt ?_
    refine TC.cond rfl (fun c2 => ?_) (fun c2 => ?_)
    ·
     (exfalso; clear ht hx; grind)
    ·
     refine TC.skip ?_
     refine AtX.blk ?_
     refine AtX.then ?_
     refine TC.region ?_
     refine TL.v (Val.move rfl) ?_
     refine TL.v (Val.add rfl rfl (w_i64 (by omega) (by omega))) ?_
     refine TL.v (Val.assign rfl) ?_
     refine TL.nil ?_
     refine AtX.round (k + 1) ?_ ?_ (Sub.cons rfl (Sub.cons rfl (Sub.nil _))) (fun _ h => h)
     · omega
     · omega
   | true =>
    refine TL.pa ?_
    refine TL.pa ?_
    refine TL.pa ?_
    refine TL.pa ?_
    refine TL.pa ?_
    refine TL.pu ?_
    refine TL.pu ?_
    refine TL.pu ?_
    refine TL.pu ?_
    refine TL.pu ?_
    refine TL.pa ?_
    refine TL.v (Val.pick rfl rfl rfl) ?_
    refine TL.nt ?_
    refine TC.cond rfl (fun c3 => ?_) (fun c3 => ?_)
    ·
     (exfalso; clear ht hx; grind)
    ·
     refine TC.skip ?_
     refine AtX.blk ?_
     refine AtX.then ?_
     refine TC.region ?_
     refine TL.v (Val.move rfl) ?_
     refine TL.v (Val.add rfl rfl (w_i64 (by omega) (by omega))) ?_
     refine TL.v (Val.assign rfl) ?_
     refine TL.nil ?_
     refine AtX.round (k + 1) ?_ ?_ (Sub.cons rfl (Sub.cons rfl (Sub.nil _))) (fun _ h => h)
     · omega
     · omega
  | true =>
   refine TL.vy (Val.move rfl) ?_
   refine TL.vy (Val.fieldAddr rfl fl26_7 sz23 rfl) ?_
   refine TL.vy (Val.indexAddrA (i := k) (r := 7 + k) rfl rfl ar23 sz2 rfl hk4 (by omega)) ?_
   refine TL.vy (Val.load 0 rfl ag2 rfl (v := .int .i64 x) (ts_nth hx)) ?_
   refine TL.vy (Val.lss rfl rfl) ?_
   refine TL.vy (Val.move rfl) ?_
   refine TL.gen (fun g5 hg5 => ?_)
   refine TL.gv rfl rfl rfl (fun hg => by subst hg; exact (Val.move rfl)) ?_
   refine TL.gv rfl rfl rfl (fun hg => by subst hg; exact (Val.fieldAddr rfl fl26_7 sz23 rfl)) ?_
   refine TL.gv rfl rfl rfl (fun hg => by subst hg; exact (Val.indexAddrA (i := k) (r := 7 + k) rfl rfl ar23 sz2 rfl hk4 (by omega))) ?_
   refine TL.gv rfl rfl rfl (fun hg => by subst hg; exact (Val.load 0 rfl ag2 rfl (v := .int .i64 x) (ts_nth hx))) ?_
   refine TL.gv rfl rfl rfl (fun hg => by subst hg; exact (Val.gtr rfl rfl)) ?_
   refine TL.vy (Val.pickOr rfl rfl rfl) ?_
   refine TL.v (Val.pickAnd rfl rfl rfl) ?_
   refine TL.v (Val.move rfl) ?_
   refine TL.gen (fun g6 hg6 => ?_)
   cases g6 with
   | false =>
    refine TL.vy (Val.move rfl) ?_
    refine TL.vy (Val.fieldAddr rfl fl26_2 sz3 rfl) ?_
    refine TL.vy (Val.load 0 rfl ag3 rfl rfl) ?_
    refine TL.vy (Val.geq rfl rfl) ?_
    refine TL.vy (Val.move rfl) ?_
    refine TL.gen (fun g7 hg7 => ?_)
    refine TL.gv rfl rfl rfl (fun hg => by subst hg; exact (Val.move rfl)) ?_
    refine TL.gv rfl rfl rfl (fun hg => by subst hg; exact (Val.fieldAddr rfl fl26_7 sz23 rfl)) ?_
    refine TL.gv rfl rfl rfl (fun hg => by subst hg; exact (Val.indexAddrA (i := k) (r := 7 + k) rfl rfl ar23 sz2 rfl hk4 (by omega))) ?_
    refine TL.gv rfl rfl rfl (fun hg => by subst hg; exact (Val.load 0 rfl ag2 rfl (v := .int .i64 x) (ts_nth hx))) ?_
    refine TL.gv rfl rfl rfl (fun hg => by subst hg; exact (Val.neqI rfl rfl)) ?_
    refine TL.vy (Val.pickAnd rfl rfl rfl) ?_
    refine TL.v (Val.pickOr rfl rfl rfl) ?_
    refine TL.nt ?_
    refine TC.cond rfl (fun c4 => ?_) (fun c4 => ?_)
    ·
     (exfalso; clear ht hx; grind)
    ·
     refine TC.skip ?_
     refine AtX.blk ?_
     refine AtX.then ?_
     refine TC.region ?_
     refine TL.v (Val.move rfl) ?_
     refine TL.v (Val.add rfl rfl (w_i64 (by omega) (by omega))) ?_
     refine TL.v (Val.assign rfl) ?_
     refine TL.nil ?_
     refine AtX.round (k + 1) ?_ ?_ (Sub.cons rfl (Sub.cons rfl (Sub.nil _))) (fun _ h => h)
     · omega
     · omega
   | true =>
    refine TL.pa ?_
    refine TL.pa ?_
    refine TL.pa ?_
    refine TL.pa ?_
    refine TL.pa ?_
    refine TL.pu ?_
    refine TL.pu ?_
    refine TL.pu ?_
    refine TL.pu ?_
    refine TL.pu ?_
    refine TL.pa ?_
    refine TL.v (Val.pick rfl rfl rfl) ?_
    refine TL.nt ?_
    refine TC.cond rfl (fun c5 => ?_) (fun c5 => ?_)
    ·
     (exfalso; clear ht hx; grind)
    ·
     refine TC.skip ?_
     refine AtX.blk ?_
     refine AtX.then ?_
     refine TC.region ?_
     refine TL.v (Val.move rfl) ?_
     refine TL.v (Val.add rfl rfl (w_i64 (by omega) (by omega))) ?_
     refine TL.v (Val.assign rfl) ?_
     refine TL.nil ?_
     refine AtX.round (k + 1) ?_ ?_ (Sub.cons rfl (Sub.cons rfl (Sub.nil _))) (fun _ h => h)
     · omega
     · omega
 ·
  refine TC.exit ?_
  refine AtX.seqX ?_
  refine AtX.seqX ?_
  refine AtX.hit ?_
  refine AtX.then ?_
  refine TC.sr ?_
  refine TL.v (Val.assign rfl) ?_
  refine TL.nt ?_
  refine TC.r1 (M' := M) (fn := Tryz.f87) (fun _ _ h => h) rfl (RV.tmp rfl) ?_
  exact ⟨rfl, rfl⟩

/-- quorumite/quorumiteref1.Wrong -/
theorem refWrong_ok (c : Cf) (M : Hp) (hc : OkC c) : FnC Tryz.prog 64 #[.agg #[.int .i64 (c.n), .int .i64 (c.f), .int .i64 (c.m), .int .i64 (c.quorum), .int .i64 (c.fresh), .int .i64 (c.grace), .int .i64 (c.window), .int .i64 (c.t0), .int .i64 (c.t1), .int .i64 (c.t2), .int .i64 (c.t3), .int .i64 (c.tol), .int .i64 (c.min), .int .i64 (c.max), .int .i64 (c.calmup), .int .i64 (c.calmdown), .int .i64 (c.podsup), .int .i64 (c.pctup), .int .i64 (c.podsdown), .int .i64 (c.pctdown), .int .i64 (c.period), .int .i64 (c.far), .int .i64 (c.strikes), .int .i64 (c.probe), .int .i64 (c.sectors), .int .u64 (c.seed)]] M (fun v M' => v = .string (ofL []) ∧ M = M') := by
 obtain ⟨h0, h1, h2, h3, h4, h5, h6, h7, h8, h9, h10, h11, h12, h13, h14, h15, h16, h17, h18, h19, h20, h21, h22, h23, h24, h25⟩ := id hc
 refine FnC.intro Tryz.func64 rfl 137 rfl (by simp) (fun z => ?_)
 refine TC.en (E' := [(0, _)]) ?_
 refine TC.sr ?_
 refine TL.d (Does.box rfl rfl) ?_
 rintro _ _ ⟨b1, rfl, rfl⟩
 refine TL.v (Val.assign rfl) ?_
 refine TL.nt ?_
 refine TC.seq ?_
 refine TC.block ?_
 refine TC.sr ?_
 refine TL.v (Val.fieldAddr rfl fl26_0 sz3 rfl) ?_
 refine TL.v (Val.load 0 rfl ag3 rfl rfl) ?_
 refine TL.d (Does.callF go85 rfl (refin_fn _ _ _ _)) ?_
 rintro _ _ ⟨rfl, rfl⟩
 refine TL.v (Val.not rfl) ?_
 refine TL.v (Val.assign rfl) ?_
 refine TL.nt ?_
 refine TC.condB rfl (fun c1 => ?_) (fun c1 => ?_)
 ·
  (exfalso; simp [inB] at c1; try omega)
 ·
  refine TC.sr ?_
  refine TL.v (Val.fieldAddr rfl fl26_1 sz3 rfl) ?_
  refine TL.v (Val.load 0 rfl ag3 rfl rfl) ?_
  refine TL.v (Val.lss rfl rfl) ?_
  refine TL.v (Val.move rfl) ?_
  refine TL.gen (fun g3 hg3 => ?_)
  refine TL.gv rfl rfl rfl (fun hg => by subst hg; exact (Val.fieldAddr rfl fl26_1 sz3 rfl)) ?_
  refine TL.gv rfl rfl rfl (fun hg => by subst hg; exact (Val.load 0 rfl ag3 rfl rfl)) ?_
  refine TL.gv rfl rfl rfl (fun hg => by subst hg; exact (Val.gtr rfl rfl)) ?_
  refine TL.v (Val.pickOr rfl rfl rfl) ?_
  refine TL.v (Val.move rfl) ?_
  refine TL.gen (fun g4 hg4 => ?_)
  refine TL.gv rfl rfl rfl (fun hg => by subst hg; exact (Val.fieldAddr rfl fl26_0 sz3 rfl)) ?_
  refine TL.gv rfl rfl rfl (fun hg => by subst hg; exact (Val.load 0 rfl ag3 rfl rfl)) ?_
  refine TL.gv rfl rfl rfl (fun hg => by subst hg; exact (Val.fieldAddr rfl fl26_1 sz3 rfl)) ?_
  refine TL.gv rfl rfl rfl (fun hg => by subst hg; exact (Val.load 0 rfl ag3 rfl rfl)) ?_
  refine TL.gv rfl rfl rfl (fun hg => by subst hg; exact (Val.mul rfl rfl (r := 3 * c.f) (w_i64 (by omega) (by omega)))) ?_
  refine TL.gv rfl rfl rfl (fun hg => by subst hg; exact (Val.add rfl rfl (r := 3 * c.f + 1) (w_i64 (by omega) (by omega)))) ?_
  refine TL.gv rfl rfl rfl (fun hg => by subst hg; exact (Val.lss rfl rfl)) ?_
  refine TL.v (Val.pickOr rfl rfl rfl) ?_
  refine TL.v (Val.assign rfl) ?_
  refine TL.nt ?_
  refine TC.en (E' := [(1, _), (2, _), (8, _)]) ?_
  refine TC.cond rfl (fun c2 => ?_) (fun c2 => ?_)
  ·
   (exfalso; clear hc; grind)
  ·
   refine TC.sr ?_
   refine TL.v (Val.fieldAddr rfl fl26_2 sz3 rfl) ?_
   refine TL.v (Val.load 0 rfl ag3 rfl rfl) ?_
   refine TL.d (Does.callF go85 rfl (refin_fn _ _ _ _)) ?_
   rintro _ _ ⟨rfl, rfl⟩
   refine TL.v (Val.not rfl) ?_
   refine TL.v (Val.assign rfl) ?_
   refine TL.nt ?_
   refine TC.condB rfl (fun c3 => ?_) (fun c3 => ?_)
   ·
    (exfalso; simp [inB] at c3; try omega)
   ·
    refine TC.sr ?_
    refine TL.v (Val.fieldAddr rfl fl26_3 sz3 rfl) ?_
    refine TL.v (Val.load 0 rfl ag3 rfl rfl) ?_
    refine TL.v (Val.fieldAddr rfl fl26_1 sz3 rfl) ?_
    refine TL.v (Val.load 0 rfl ag3 rfl rfl) ?_
    refine TL.v (Val.mul rfl rfl (r := 2 * c.f) (w_i64 (by omega) (by omega))) ?_
    refine TL.v (Val.add rfl rfl (r := 2 * c.f + 1) (w_i64 (by omega) (by omega))) ?_
    refine TL.v (Val.fieldAddr rfl fl26_0 sz3 rfl) ?_
    refine TL.v (Val.load 0 rfl ag3 rfl rfl) ?_
    refine TL.d (Does.callF go85 rfl (refin_fn _ _ _ _)) ?_
    rintro _ _ ⟨rfl, rfl⟩
    refine TL.v (Val.not rfl) ?_
    refine TL.v (Val.assign rfl) ?_
    refine TL.nt ?_
    refine TC.en (E' := [(1, _), (2, _), (31, _)]) ?_
    refine TC.condB rfl (fun c4 => ?_) (fun c4 => ?_)
    ·
     (exfalso; simp [inB] at c4; try omega)
    ·
     refine TC.sr ?_
     refine TL.v (Val.fieldAddr rfl fl26_4 sz3 rfl) ?_
     refine TL.v (Val.load 0 rfl ag3 rfl rfl) ?_
     refine TL.d (Does.callF go85 rfl (refin_fn _ _ _ _)) ?_
     rintro _ _ ⟨rfl, rfl⟩
     refine TL.v (Val.not rfl) ?_
     refine TL.v (Val.assign rfl) ?_
     refine TL.nt ?_
     refine TC.condB rfl (fun c5 => ?_) (fun c5 => ?_)
     ·
      (exfalso; simp [inB] at c5; try omega)
     ·
      refine TC.sr ?_
      refine TL.v (Val.fieldAddr rfl fl26_5 sz3 rfl) ?_
      refine TL.v (Val.load 0 rfl ag3 rfl rfl) ?_
      refine TL.d (Does.callF go85 rfl (refin_fn _ _ _ _)) ?_
      rintro _ _ ⟨rfl, rfl⟩
      refine TL.v (Val.not rfl) ?_
      refine TL.v (Val.assign rfl) ?_
      refine TL.nt ?_
      refine TC.en (E' := [(1, _), (2, _), (47, _)]) ?_
      refine TC.condB rfl (fun c6 => ?_) (fun c6 => ?_)
      ·
       (exfalso; simp [inB] at c6; try omega)
      ·
       refine TC.sr ?_
       refine TL.v (Val.fieldAddr rfl fl26_6 sz3 rfl) ?_
       refine TL.v (Val.load 0 rfl ag3 rfl rfl) ?_
       refine TL.d (Does.callF go85 rfl (refin_fn _ _ _ _)) ?_
       rintro _ _ ⟨rfl, rfl⟩
       refine TL.v (Val.not rfl) ?_
       refine TL.v (Val.assign rfl) ?_
       refine TL.nt ?_
       refine TC.condB rfl (fun c7 => ?_) (fun c7 => ?_)
       ·
        (exfalso; simp [inB] at c7; try omega)
       ·
        refine TC.sr ?_
        refine TL.v (Val.loadAgg 0 rfl ag26 sz26 rfl rfl rfl) ?_
        refine TL.d (Does.callF go87 rfl (reftargets_fn c _ (tg_ok hc))) ?_
        rintro _ _ ⟨rfl, rfl⟩
        refine TL.v (Val.not rfl) ?_
        refine TL.v (Val.assign rfl) ?_
        refine TL.nt ?_
        refine TC.en (E' := [(1, _), (2, _), (57, _)]) ?_
        refine TC.condB rfl (fun c8 => ?_) (fun c8 => ?_)
        ·
         (exfalso; simp [inB] at c8; try omega)
        ·
         refine TC.sr ?_
         refine TL.v (Val.fieldAddr rfl fl26_8 sz3 rfl) ?_
         refine TL.v (Val.load 0 rfl ag3 rfl rfl) ?_
         refine TL.d (Does.callF go85 rfl (refin_fn _ _ _ _)) ?_
         rintro _ _ ⟨rfl, rfl⟩
         refine TL.v (Val.not rfl) ?_
         refine TL.v (Val.assign rfl) ?_
         refine TL.nt ?_
         refine TC.condB rfl (fun c9 => ?_) (fun c9 => ?_)
         ·
          (exfalso; simp [inB] at c9; try omega)
         ·
          refine TC.sr ?_
          refine TL.v (Val.fieldAddr rfl fl26_9 sz3 rfl) ?_
          refine TL.v (Val.load 0 rfl ag3 rfl rfl) ?_
          refine TL.d (Does.callF go85 rfl (refin_fn _ _ _ _)) ?_
          rintro _ _ ⟨rfl, rfl⟩
          refine TL.v (Val.not rfl) ?_
          refine TL.v (Val.assign rfl) ?_
          refine TL.nt ?_
          refine TC.en (E' := [(1, _), (2, _), (66, _)]) ?_
          refine TC.condB rfl (fun c10 => ?_) (fun c10 => ?_)
          ·
           (exfalso; simp [inB] at c10; try omega)
          ·
           refine TC.sr ?_
           refine TL.v (Val.fieldAddr rfl fl26_10 sz3 rfl) ?_
           refine TL.v (Val.load 0 rfl ag3 rfl rfl) ?_
           refine TL.v (Val.fieldAddr rfl fl26_9 sz3 rfl) ?_
           refine TL.v (Val.load 0 rfl ag3 rfl rfl) ?_
           refine TL.d (Does.callF go85 rfl (refin_fn _ _ _ _)) ?_
           rintro _ _ ⟨rfl, rfl⟩
           refine TL.v (Val.not rfl) ?_
           refine TL.v (Val.assign rfl) ?_
           refine TL.nt ?_
           refine TC.condB rfl (fun c11 => ?_) (fun c11 => ?_)
           ·
            (exfalso; simp [inB] at c11; try omega)
           ·
            refine TC.en (E' := [(1, _), (2, _)]) ?_
            refine TC.sr ?_
            refine TL.v (Val.fieldAddr rfl fl26_11 sz3 rfl) ?_
            refine TL.v (Val.load 0 rfl ag3 rfl rfl) ?_
            refine TL.d (Does.callF go85 rfl (refin_fn _ _ _ _)) ?_
            rintro _ _ ⟨rfl, rfl⟩
            refine TL.v (Val.not rfl) ?_
            refine TL.v (Val.assign rfl) ?_
            refine TL.nt ?_
            refine TC.condB rfl (fun c12 => ?_) (fun c12 => ?_)
            ·
             (exfalso; simp [inB] at c12; try omega)
            ·
             refine TC.sr ?_
             refine TL.v (Val.fieldAddr rfl fl26_12 sz3 rfl) ?_
             refine TL.v (Val.load 0 rfl ag3 rfl rfl) ?_
             refine TL.d (Does.callF go85 rfl (refin_fn _ _ _ _)) ?_
             rintro _ _ ⟨rfl, rfl⟩
             refine TL.v (Val.not rfl) ?_
             refine TL.v (Val.assign rfl) ?_
             refine TL.nt ?_
             refine TC.en (E' := [(1, _), (2, _), (83, _)]) ?_
             refine TC.condB rfl (fun c13 => ?_) (fun c13 => ?_)
             ·
              (exfalso; simp [inB] at c13; try omega)
             ·
              refine TC.sr ?_
              refine TL.v (Val.fieldAddr rfl fl26_13 sz3 rfl) ?_
              refine TL.v (Val.load 0 rfl ag3 rfl rfl) ?_
              refine TL.d (Does.callF go85 rfl (refin_fn _ _ _ _)) ?_
              rintro _ _ ⟨rfl, rfl⟩
              refine TL.v (Val.not rfl) ?_
              refine TL.v (Val.assign rfl) ?_
              refine TL.nt ?_
              refine TC.condB rfl (fun c14 => ?_) (fun c14 => ?_)
              ·
               (exfalso; simp [inB] at c14; try omega)
              ·
               refine TC.sr ?_
               refine TL.v (Val.fieldAddr rfl fl26_14 sz3 rfl) ?_
               refine TL.v (Val.load 0 rfl ag3 rfl rfl) ?_
               refine TL.d (Does.callF go85 rfl (refin_fn _ _ _ _)) ?_
               rintro _ _ ⟨rfl, rfl⟩
               refine TL.v (Val.not rfl) ?_
               refine TL.v (Val.assign rfl) ?_
               refine TL.nt ?_
               refine TC.en (E' := [(1, _), (2, _), (93, _)]) ?_
               refine TC.condB rfl (fun c15 => ?_) (fun c15 => ?_)
               ·
                (exfalso; simp [inB] at c15; try omega)
               ·
                refine TC.sr ?_
                refine TL.v (Val.fieldAddr rfl fl26_15 sz3 rfl) ?_
                refine TL.v (Val.load 0 rfl ag3 rfl rfl) ?_
                refine TL.d (Does.callF go85 rfl (refin_fn _ _ _ _)) ?_
                rintro _ _ ⟨rfl, rfl⟩
                refine TL.v (Val.not rfl) ?_
                refine TL.v (Val.assign rfl) ?_
                refine TL.nt ?_
                refine TC.condB rfl (fun c16 => ?_) (fun c16 => ?_)
                ·
                 (exfalso; simp [inB] at c16; try omega)
                ·
                 refine TC.sr ?_
                 refine TL.v (Val.fieldAddr rfl fl26_16 sz3 rfl) ?_
                 refine TL.v (Val.load 0 rfl ag3 rfl rfl) ?_
                 refine TL.d (Does.callF go85 rfl (refin_fn _ _ _ _)) ?_
                 rintro _ _ ⟨rfl, rfl⟩
                 refine TL.v (Val.not rfl) ?_
                 refine TL.v (Val.assign rfl) ?_
                 refine TL.nt ?_
                 refine TC.en (E' := [(1, _), (2, _), (103, _)]) ?_
                 refine TC.condB rfl (fun c17 => ?_) (fun c17 => ?_)
                 ·
                  (exfalso; simp [inB] at c17; try omega)
                 ·
                  refine TC.sr ?_
                  refine TL.v (Val.fieldAddr rfl fl26_17 sz3 rfl) ?_
                  refine TL.v (Val.load 0 rfl ag3 rfl rfl) ?_
                  refine TL.d (Does.callF go85 rfl (refin_fn _ _ _ _)) ?_
                  rintro _ _ ⟨rfl, rfl⟩
                  refine TL.v (Val.not rfl) ?_
                  refine TL.v (Val.assign rfl) ?_
                  refine TL.nt ?_
                  refine TC.condB rfl (fun c18 => ?_) (fun c18 => ?_)
                  ·
                   (exfalso; simp [inB] at c18; try omega)
                  ·
                   refine TC.sr ?_
                   refine TL.v (Val.fieldAddr rfl fl26_18 sz2 rfl) ?_
                   refine TL.v (Val.load 0 rfl ag2 rfl rfl) ?_
                   refine TL.v (Val.lss rfl rfl) ?_
                   refine TL.v (Val.move rfl) ?_
                   refine TL.gen (fun g21 hg21 => ?_)
                   refine TL.gv rfl rfl rfl (fun hg => by subst hg; exact (Val.fieldAddr rfl fl26_18 sz2 rfl)) ?_
                   refine TL.gv rfl rfl rfl (fun hg => by subst hg; exact (Val.load 0 rfl ag2 rfl rfl)) ?_
                   refine TL.gv rfl rfl rfl (fun hg => by subst hg; exact (Val.gtr rfl rfl)) ?_
                   refine TL.v (Val.pickOr rfl rfl rfl) ?_
                   refine TL.v (Val.assign rfl) ?_
                   refine TL.nt ?_
                   refine TC.en (E' := [(1, _), (2, _), (113, _)]) ?_
                   refine TC.cond rfl (fun c19 => ?_) (fun c19 => ?_)
                   ·
                    (exfalso; clear hc; grind)
                   ·
                    refine TC.sr ?_
                    refine TL.v (Val.fieldAddr rfl fl26_19 sz3 rfl) ?_
                    refine TL.v (Val.load 0 rfl ag3 rfl rfl) ?_
                    refine TL.d (Does.callF go85 rfl (refin_fn _ _ _ _)) ?_
                    rintro _ _ ⟨rfl, rfl⟩
                    refine TL.v (Val.not rfl) ?_
                    refine TL.v (Val.assign rfl) ?_
                    refine TL.nt ?_
                    refine TC.condB rfl (fun c20 => ?_) (fun c20 => ?_)
                    ·
                     (exfalso; simp [inB] at c20; try omega)
                    ·
                     refine TC.sr ?_
                     refine TL.v (Val.fieldAddr rfl fl26_20 sz3 rfl) ?_
                     refine TL.v (Val.load 0 rfl ag3 rfl rfl) ?_
                     refine TL.d (Does.callF go85 rfl (refin_fn _ _ _ _)) ?_
                     rintro _ _ ⟨rfl, rfl⟩
                     refine TL.v (Val.not rfl) ?_
                     refine TL.v (Val.assign rfl) ?_
                     refine TL.nt ?_
                     refine TC.en (E' := [(1, _), (2, _), (127, _)]) ?_
                     refine TC.condB rfl (fun c21 => ?_) (fun c21 => ?_)
                     ·
                      (exfalso; simp [inB] at c21; try omega)
                     ·
                      refine TC.sr ?_
                      refine TL.v (Val.fieldAddr rfl fl26_21 sz3 rfl) ?_
                      refine TL.v (Val.load 0 rfl ag3 rfl rfl) ?_
                      refine TL.d (Does.callF go85 rfl (refin_fn _ _ _ _)) ?_
                      rintro _ _ ⟨rfl, rfl⟩
                      refine TL.v (Val.not rfl) ?_
                      refine TL.v (Val.assign rfl) ?_
                      refine TL.nt ?_
                      refine TC.condB rfl (fun c22 => ?_) (fun c22 => ?_)
                      ·
                       (exfalso; simp [inB] at c22; try omega)
                      ·
                       refine TC.skip ?_
                       refine AtX.blk ?_
                       refine AtX.then ?_
                       refine TC.sr ?_
                       refine TL.v (Val.assign rfl) ?_
                       refine TL.nt ?_
                       refine TC.r1 (M' := M) (fn := Tryz.f64) (fun _ _ h => h) rfl (RV.tmp rfl) ?_
                       exact ⟨rfl, rfl⟩

/-- quorumite/quorumiteref1.MayConf -/
theorem refMC_ok (c : Cf) (M : Hp) (hc : OkC c) : FnC Tryz.prog 32 #[.agg #[.int .i64 (c.n), .int .i64 (c.f), .int .i64 (c.m), .int .i64 (c.quorum), .int .i64 (c.fresh), .int .i64 (c.grace), .int .i64 (c.window), .int .i64 (c.t0), .int .i64 (c.t1), .int .i64 (c.t2), .int .i64 (c.t3), .int .i64 (c.tol), .int .i64 (c.min), .int .i64 (c.max), .int .i64 (c.calmup), .int .i64 (c.calmdown), .int .i64 (c.podsup), .int .i64 (c.pctup), .int .i64 (c.podsdown), .int .i64 (c.pctdown), .int .i64 (c.period), .int .i64 (c.far), .int .i64 (c.strikes), .int .i64 (c.probe), .int .i64 (c.sectors), .int .u64 (c.seed)]] M (fun v M' => v = .bool true ∧ M = M') := by
 refine FnC.intro Tryz.func32 rfl 6 rfl (by simp) (fun z => ?_)
 refine TC.en (E' := [(0, _)]) ?_
 refine TC.sr ?_
 refine TL.d (Does.box rfl rfl) ?_
 rintro _ _ ⟨b1, rfl, rfl⟩
 refine TL.v (Val.assign rfl) ?_
 refine TL.nt ?_
 refine TC.sr ?_
 refine TL.v (Val.loadAgg 0 rfl ag26 sz26 rfl rfl rfl) ?_
 refine TL.d (Does.callF go64 rfl (refWrong_ok c _ hc)) ?_
 rintro _ _ ⟨rfl, rfl⟩
 refine TL.v (Val.eqlL (a := []) (b := []) rfl rfl) ?_
 refine TL.v (Val.assign rfl) ?_
 refine TL.nt ?_
 refine TC.r1 (M' := M) (fn := Tryz.f32) (fun _ _ h => h) rfl (RV.tmp rfl) ?_
 exact ⟨rfl, rfl⟩

end Go.Proofs.YtphoapajlcaoeaaGreat
/- walks -/
set_option linter.unusedVariables false
set_option linter.unusedSimpArgs false
set_option maxRecDepth 100000
set_option maxHeartbeats 4000000
namespace Go.Proofs.YtphoapajlcaoeaaGreat
open Go Go.X
abbrev rgO (gb : Nat) (c : Cf) (rb : Nat) (A : Option Addr) (n1 c1 : Nat) (B : Option Addr) (n2 c2 : Nat) : Nat × Obj := (gb, .cells #[.int .i64 (c.n), .int .i64 (c.f), .int .i64 (c.m), .int .i64 (c.quorum), .int .i64 (c.fresh), .int .i64 (c.grace), .int .i64 (c.window), .int .i64 (c.t0), .int .i64 (c.t1), .int .i64 (c.t2), .int .i64 (c.t3), .int .i64 (c.tol), .int .i64 (c.min), .int .i64 (c.max), .int .i64 (c.calmup), .int .i64 (c.calmdown), .int .i64 (c.podsup), .int .i64 (c.pctup), .int .i64 (c.podsdown), .int .i64 (c.pctdown), .int .i64 (c.period), .int .i64 (c.far), .int .i64 (c.strikes), .int .i64 (c.probe), .int .i64 (c.sectors), .int .u64 (c.seed), .pointer (some ⟨rb, 0, none⟩), .slice A n1 c1, .slice B n2 c2] 71 (0, 0))
/-- quorumite/quorumiteref5.NewGate -/
theorem rgNew_fn (c : Cf) (N : Nat) (M : Hp) (hc : OkC c) (hN : c.n = N) : FnC Tryz.prog 7 #[.agg #[.int .i64 (c.n), .int .i64 (c.f), .int .i64 (c.m), .int .i64 (c.quorum), .int .i64 (c.fresh), .int .i64 (c.grace), .int .i64 (c.window), .int .i64 (c.t0), .int .i64 (c.t1), .int .i64 (c.t2), .int .i64 (c.t3), .int .i64 (c.tol), .int .i64 (c.min), .int .i64 (c.max), .int .i64 (c.calmup), .int .i64 (c.calmdown), .int .i64 (c.podsup), .int .i64 (c.pctup), .int .i64 (c.podsdown), .int .i64 (c.pctdown), .int .i64 (c.period), .int .i64 (c.far), .int .i64 (c.strikes), .int .i64 (c.probe), .int .i64 (c.sectors), .int .u64 (c.seed)]] M (fun v M' => ∃ (gb rb lg ls nb cn : Nat) (sn : List Value) (ob co : Nat) (so : List Value) (nws ols : List Nat), v = .pointer (some ⟨gb, 0, none⟩) ∧ nws.length = N ∧ ols.length = N ∧ M' = rgO gb c rb (some ⟨nb, 0, none⟩) N cn (some ⟨ob, 0, none⟩) N co :: rrO rb c.seed c.grace lg ls N :: (lg, row 3 (gens (List.replicate N (⟨0, 0⟩ : On)))) :: (ls, row 2 (sinces (List.replicate N (⟨0, 0⟩ : On)))) :: (nb, row 76 (nws.map pp ++ sn)) :: (ob, row 76 (ols.map pp ++ so)) :: ((nws.map fun p => rpO p c.window 0 none 0 0) ++ ((ols.map fun p => rpO p c.window 0 none 0 0) ++ M))) := by
 have hn16 := hc.n
 have hgr := hc.grace
 have hwin := hc.window
 refine FnC.intro Tryz.func7 rfl 49 rfl (by simp) (fun z => ?_)
 refine TC.en (E' := [(0, _)]) ?_
 refine TC.sr ?_
 refine TL.d (Does.box rfl rfl) ?_
 rintro _ _ ⟨b1, rfl, rfl⟩
 refine TL.v (Val.assign rfl) ?_
 refine TL.nt ?_
 refine TC.seq ?_
 refine TC.sr ?_
 refine TL.v (Val.loadAgg 0 rfl ag26 sz26 rfl rfl rfl) ?_
 refine TL.d (Does.callF go32 rfl (refMC_ok c _ hc)) ?_
 rintro _ _ ⟨rfl, rfl⟩
 refine TL.v (Val.not rfl) ?_
 refine TL.nt ?_
 refine TC.condB rfl (fun c1 => ?_) (fun c1 => ?_)
 ·
  cases c1
 ·
  refine TC.skip ?_
  refine AtX.then ?_
  refine TC.seq ?_
  refine TC.drawL ((b1, .cells #[.int .i64 (c.n), .int .i64 (c.f), .int .i64 (c.m), .int .i64 (c.quorum), .int .i64 (c.fresh), .int .i64 (c.grace), .int .i64 (c.window), .int .i64 (c.t0), .int .i64 (c.t1), .int .i64 (c.t2), .int .i64 (c.t3), .int .i64 (c.tol), .int .i64 (c.min), .int .i64 (c.max), .int .i64 (c.calmup), .int .i64 (c.calmdown), .int .i64 (c.podsup), .int .i64 (c.pctup), .int .i64 (c.podsdown), .int .i64 (c.pctdown), .int .i64 (c.period), .int .i64 (c.far), .int .i64 (c.strikes), .int .i64 (c.probe), .int .i64 (c.sectors), .int .u64 (c.seed)] 26 (0, 0)) :: M) mixed 11 ?_
  refine TA.tk 0 1 rfl rfl rfl (Val.loadAgg (vs := [.int .i64 (c.n), .int .i64 (c.f), .int .i64 (c.m), .int .i64 (c.quorum), .int .i64 (c.fresh), .int .i64 (c.grace), .int .i64 (c.window), .int .i64 (c.t0), .int .i64 (c.t1), .int .i64 (c.t2), .int .i64 (c.t3), .int .i64 (c.tol), .int .i64 (c.min), .int .i64 (c.max), .int .i64 (c.calmup), .int .i64 (c.calmdown), .int .i64 (c.podsup), .int .i64 (c.pctup), .int .i64 (c.podsdown), .int .i64 (c.pctdown), .int .i64 (c.period), .int .i64 (c.far), .int .i64 (c.strikes), .int .i64 (c.probe), .int .i64 (c.sectors), .int .u64 (c.seed)]) 0 rfl ag26 sz26 rfl rfl rfl) ?_
  refine TA.tk 1 3 rfl rfl rfl (Val.fieldAddr rfl fl26_22 sz24 rfl) ?_
  refine TA.tk 2 7 rfl rfl rfl (Val.load 0 rfl ag24 rfl rfl) ?_
  refine TA.tk 3 15 rfl rfl rfl (Val.fieldAddr rfl fl26_0 sz3 rfl) ?_
  refine TA.tk 4 31 rfl rfl rfl (Val.same (v' := .int .i64 (N : Nat)) (Val.load 0 rfl ag3 rfl rfl) (by rw [hN])) ?_
  refine TA.tk 5 63 rfl rfl rfl (Val.fieldAddr rfl fl26_5 sz3 rfl) ?_
  refine TA.tk 6 127 rfl rfl rfl (Val.load 0 rfl ag3 rfl rfl) ?_
  refine TA.one 7 (by kernel_rfl) ?_
  refine TO.dz 255 (some 15) rfl rfl rfl rfl (Does.callF go33 rfl (rrNew_fn c.seed N c.grace _ ⟨by omega, by omega⟩ hgr)) ?_
  rintro _ _ ⟨rb, lg, ls, rfl, rfl⟩
  refine roK ?_
  refine TA.tk 8 511 rfl rfl rfl (Val.buildS (cs := [.int .i64 (c.n), .int .i64 (c.f), .int .i64 (c.m), .int .i64 (c.quorum), .int .i64 (c.fresh), .int .i64 (c.grace), .int .i64 (c.window), .int .i64 (c.t0), .int .i64 (c.t1), .int .i64 (c.t2), .int .i64 (c.t3), .int .i64 (c.tol), .int .i64 (c.min), .int .i64 (c.max), .int .i64 (c.calmup), .int .i64 (c.calmdown), .int .i64 (c.podsup), .int .i64 (c.pctup), .int .i64 (c.podsdown), .int .i64 (c.pctdown), .int .i64 (c.period), .int .i64 (c.far), .int .i64 (c.strikes), .int .i64 (c.probe), .int .i64 (c.sectors), .int .u64 (c.seed), .pointer (some ⟨rb, 0, none⟩), .slice none 0 0, .slice none 0 0]) pl71 ze71 rfl (fill_step (pre := []) (mid := [.int .i64 (0), .int .i64 (0), .int .i64 (0), .int .i64 (0), .int .i64 (0), .int .i64 (0), .int .i64 (0), .int .i64 (0), .int .i64 (0), .int .i64 (0), .int .i64 (0), .int .i64 (0), .int .i64 (0), .int .i64 (0), .int .i64 (0), .int .i64 (0), .int .i64 (0), .int .i64 (0), .int .i64 (0), .int .i64 (0), .int .i64 (0), .int .i64 (0), .int .i64 (0), .int .i64 (0), .int .i64 (0), .int .u64 (0)]) (post := [.pointer none, .slice none 0 0, .slice none 0 0]) rfl rfl rfl rfl (fill_step (pre := [.int .i64 (c.n), .int .i64 (c.f), .int .i64 (c.m), .int .i64 (c.quorum), .int .i64 (c.fresh), .int .i64 (c.grace), .int .i64 (c.window), .int .i64 (c.t0), .int .i64 (c.t1), .int .i64 (c.t2), .int .i64 (c.t3), .int .i64 (c.tol), .int .i64 (c.min), .int .i64 (c.max), .int .i64 (c.calmup), .int .i64 (c.calmdown), .int .i64 (c.podsup), .int .i64 (c.pctup), .int .i64 (c.podsdown), .int .i64 (c.pctdown), .int .i64 (c.period), .int .i64 (c.far), .int .i64 (c.strikes), .int .i64 (c.probe), .int .i64 (c.sectors), .int .u64 (c.seed)]) (mid := [.pointer none]) (post := [.slice none 0 0, .slice none 0 0]) rfl rfl rfl rfl rfl))) ?_
  refine TA.one 9 (by kernel_rfl) ?_
  refine TO.dz 1023 (some 17) rfl rfl rfl rfl (Does.box rfl rfl) ?_
  rintro _ _ ⟨gb, rfl, rfl⟩
  refine roK ?_
  refine TA.tk 10 2047 rfl rfl rfl (Val.assign rfl) ?_
  refine TA.done (by kernel_rfl) ?_
  refine AtX.then ?_
  refine TC.en (E' := [(1, _), (2, _), (3, _)]) ?_
  refine TC.seq ?_
  refine TC.seq ?_
  refine TC.heap (M' := rgO gb c rb none 0 0 none 0 0 :: rrO rb c.seed c.grace lg ls N :: (lg, row 3 (gens (List.replicate N (⟨0, 0⟩ : On)))) :: (ls, row 2 (sinces (List.replicate N (⟨0, 0⟩ : On)))) :: (b1, .cells #[.int .i64 (c.n), .int .i64 (c.f), .int .i64 (c.m), .int .i64 (c.quorum), .int .i64 (c.fresh), .int .i64 (c.grace), .int .i64 (c.window), .int .i64 (c.t0), .int .i64 (c.t1), .int .i64 (c.t2), .int .i64 (c.t3), .int .i64 (c.tol), .int .i64 (c.min), .int .i64 (c.max), .int .i64 (c.calmup), .int .i64 (c.calmdown), .int .i64 (c.podsup), .int .i64 (c.pctup), .int .i64 (c.podsdown), .int .i64 (c.pctdown), .int .i64 (c.period), .int .i64 (c.far), .int .i64 (c.strikes), .int .i64 (c.probe), .int .i64 (c.sectors), .int .u64 (c.seed)] 26 (0, 0)) :: M) (fun w h => h) ?_
  refine TC.region ?_
  refine TL.v (Val.assign rfl) ?_
  refine TL.nt ?_
  refine TC.block ?_
  refine TC.loop (ι := (Nat × Sl × Sl × List Nat × List Nat)) (fun i => [(1, .pointer (some ⟨b1, 0, none⟩)), (3, .pointer (some ⟨gb, 0, none⟩)), (4, .int .i64 (i.1 : Nat))]) (fun i => rgO gb c rb (slA i.2.1) i.1 (slC i.2.1) (slA i.2.2.1) i.1 (slC i.2.2.1) :: rrO rb c.seed c.grace lg ls N :: (lg, row 3 (gens (List.replicate N (⟨0, 0⟩ : On)))) :: (ls, row 2 (sinces (List.replicate N (⟨0, 0⟩ : On)))) :: (b1, .cells #[.int .i64 (c.n), .int .i64 (c.f), .int .i64 (c.m), .int .i64 (c.quorum), .int .i64 (c.fresh), .int .i64 (c.grace), .int .i64 (c.window), .int .i64 (c.t0), .int .i64 (c.t1), .int .i64 (c.t2), .int .i64 (c.t3), .int .i64 (c.tol), .int .i64 (c.min), .int .i64 (c.max), .int .i64 (c.calmup), .int .i64 (c.calmdown), .int .i64 (c.podsup), .int .i64 (c.pctup), .int .i64 (c.podsdown), .int .i64 (c.pctdown), .int .i64 (c.period), .int .i64 (c.far), .int .i64 (c.strikes), .int .i64 (c.probe), .int .i64 (c.sectors), .int .u64 (c.seed)] 26 (0, 0)) :: (slH i.2.1 76 (i.2.2.2.1.map pp) ++ (slH i.2.2.1 76 (i.2.2.2.2.map pp) ++ ((i.2.2.2.1.map fun p => rpO p c.window 0 none 0 0) ++ ((i.2.2.2.2.map fun p => rpO p c.window 0 none 0 0) ++ M))))) (fun i => i.1 ≤ N ∧ i.2.2.2.1.length = i.1 ∧ i.2.2.2.2.length = i.1 ∧ slOk i.2.1 1 i.1 (i.2.2.2.1.map pp) ∧ slOk i.2.2.1 1 i.1 (i.2.2.2.2.map pp)) (fun i => N - i.1) (0, none, none, [], []) ?_ (Sub.cons rfl (Sub.cons rfl (Sub.cons rfl (Sub.nil _)))) (fun _ h => h) ?_
  · exact ⟨by omega, rfl, rfl, slOk_nil 1, slOk_nil 1⟩
  rintro ⟨k, σ, τ, nws, ols⟩ ⟨hk, hnl, hol, hok, hokt⟩
  dsimp only at hk hnl hol hok hokt ⊢
  refine TC.seq ?_
  refine TC.sr ?_
  refine TL.v (Val.move rfl) ?_
  refine TL.v (Val.fieldAddr rfl fl26_0 sz3 rfl) ?_
  refine TL.v (Val.load 4 rfl ag3 rfl rfl) ?_
  refine TL.v (Val.lss rfl rfl) ?_
  refine TL.nt ?_
  refine TC.condP rfl (fun c2 => ?_) (fun c2 => ?_)
  ·
   refine TC.skip ?_
   refine AtX.then ?_
   refine TC.seq ?_
   refine TC.block ?_
   refine TC.drawGM [22, 25] [rgO gb c rb (slA σ) k (slC σ) (slA τ) k (slC τ), rrO rb c.seed c.grace lg ls N, (lg, row 3 (gens (List.replicate N (⟨0, 0⟩ : On)))), (ls, row 2 (sinces (List.replicate N (⟨0, 0⟩ : On)))), (b1, .cells #[.int .i64 (c.n), .int .i64 (c.f), .int .i64 (c.m), .int .i64 (c.quorum), .int .i64 (c.fresh), .int .i64 (c.grace), .int .i64 (c.window), .int .i64 (c.t0), .int .i64 (c.t1), .int .i64 (c.t2), .int .i64 (c.t3), .int .i64 (c.tol), .int .i64 (c.min), .int .i64 (c.max), .int .i64 (c.calmup), .int .i64 (c.calmdown), .int .i64 (c.podsup), .int .i64 (c.pctup), .int .i64 (c.podsdown), .int .i64 (c.pctdown), .int .i64 (c.period), .int .i64 (c.far), .int .i64 (c.strikes), .int .i64 (c.probe), .int .i64 (c.sectors), .int .u64 (c.seed)] 26 (0, 0))] [(b1, .cells #[.int .i64 (c.n), .int .i64 (c.f), .int .i64 (c.m), .int .i64 (c.quorum), .int .i64 (c.fresh), .int .i64 (c.grace), .int .i64 (c.window), .int .i64 (c.t0), .int .i64 (c.t1), .int .i64 (c.t2), .int .i64 (c.t3), .int .i64 (c.tol), .int .i64 (c.min), .int .i64 (c.max), .int .i64 (c.calmup), .int .i64 (c.calmdown), .int .i64 (c.podsup), .int .i64 (c.pctup), .int .i64 (c.podsdown), .int .i64 (c.pctdown), .int .i64 (c.period), .int .i64 (c.far), .int .i64 (c.strikes), .int .i64 (c.probe), .int .i64 (c.sectors), .int .u64 (c.seed)] 26 (0, 0))] mixed 26 ?_
   refine TG.tk false 0 1 rfl rfl rfl (Val.move rfl) ?_ (hro := (by repeat (first | exact Go.X.ro_s | refine Go.X.ro_tail ?_)))
   refine TG.tw false 1 3 rfl rfl rfl (Val.move rfl) ?_ (hro := (by repeat (first | exact Go.X.ro_s | refine Go.X.ro_tail ?_)))
   refine TG.tk false 2 7 rfl rfl rfl (Val.move rfl) ?_ (hro := (by repeat (first | exact Go.X.ro_s | refine Go.X.ro_tail ?_)))
   refine TG.tk false 3 15 rfl rfl rfl (Val.nilCheck rfl) ?_ (hro := (by repeat (first | exact Go.X.ro_s | refine Go.X.ro_tail ?_)))
   refine TG.tk false 4 31 rfl rfl rfl (Val.fieldAddr rfl fl71_2 sz69 rfl) ?_ (hro := (by repeat (first | exact Go.X.ro_s | refine Go.X.ro_tail ?_)))
   refine TG.tk false 5 63 rfl rfl rfl (Val.load 0 rfl ag69 rfl rfl) ?_ (hro := (by repeat (first | exact Go.X.ro_s | refine Go.X.ro_tail ?_)))
   refine TG.tk false 6 127 rfl rfl rfl (Val.fieldAddr rfl fl26_6 sz3 rfl) ?_ (hro := (by repeat (first | exact Go.X.ro_s | refine Go.X.ro_tail ?_)))
   refine TG.tk false 7 255 rfl rfl rfl (Val.load 4 rfl ag3 rfl rfl) ?_ (hro := (by repeat (first | exact Go.X.ro_s | refine Go.X.ro_tail ?_)))
   refine TG.tw false 11 2303 rfl rfl rfl (Val.move rfl) ?_ (hro := (by repeat (first | exact Go.X.ro_s | refine Go.X.ro_tail ?_)))
   refine TG.tw false 12 6399 rfl rfl rfl (Val.nilCheck rfl) ?_ (hro := (by repeat (first | exact Go.X.ro_s | refine Go.X.ro_tail ?_)))
   refine TG.tw false 13 14591 rfl rfl rfl (Val.fieldAddr rfl fl71_3 sz69 rfl) ?_ (hro := (by repeat (first | exact Go.X.ro_s | refine Go.X.ro_tail ?_)))
   refine TG.tk false 14 30975 rfl rfl rfl (Val.load 0 rfl ag69 rfl rfl) ?_ (hro := (by repeat (first | exact Go.X.ro_s | refine Go.X.ro_tail ?_)))
   refine TG.tw false 15 63743 rfl rfl rfl (Val.fieldAddr rfl fl26_6 sz3 rfl) ?_ (hro := (by repeat (first | exact Go.X.ro_s | refine Go.X.ro_tail ?_)))
   refine TG.tw false 16 129279 rfl rfl rfl (Val.load 0 rfl ag3 rfl rfl) ?_ (hro := (by repeat (first | exact Go.X.ro_s | refine Go.X.ro_tail ?_)))
   refine TG.one 8 (by kernel_rfl) ?_
   refine TP.dz false 129535 (some 32) rfl rfl rfl rfl (Does.callF go34 rfl (rpNew_fn c.window _ hwin)) ?_
   rintro _ _ ⟨pb, rfl, rfl⟩
   refine ⟨(by repeat (first | exact Go.X.ro_s | refine Go.X.ro_tail ?_)), ?_⟩
   refine TG.one 9 (by kernel_rfl) ?_
   refine TP.dz false 130047 (some 33) rfl rfl rfl rfl (Does.buildSlice sl69 sz76 ze76 (by decide) (by decide) rfl rfl rfl) ?_
   rintro _ _ ⟨bt, rfl, rfl⟩
   refine ⟨(by repeat (first | exact Go.X.ro_s | refine Go.X.ro_tail ?_)), ?_⟩
   refine TG.one 10 (by kernel_rfl) ?_
   refine TP.dz false 131071 (some 34) rfl rfl rfl rfl (Does.appendS (xs := nws.map pp) (ys := [.pointer (some ⟨pb, 0, none⟩)]) σ (rpO pb c.window 0 none 0 0 :: rgO gb c rb (slA σ) k (slC σ) (slA τ) k (slC τ) :: rrO rb c.seed c.grace lg ls N :: (lg, row 3 (gens (List.replicate N (⟨0, 0⟩ : On)))) :: (ls, row 2 (sinces (List.replicate N (⟨0, 0⟩ : On)))) :: (b1, .cells #[.int .i64 (c.n), .int .i64 (c.f), .int .i64 (c.m), .int .i64 (c.quorum), .int .i64 (c.fresh), .int .i64 (c.grace), .int .i64 (c.window), .int .i64 (c.t0), .int .i64 (c.t1), .int .i64 (c.t2), .int .i64 (c.t3), .int .i64 (c.tol), .int .i64 (c.min), .int .i64 (c.max), .int .i64 (c.calmup), .int .i64 (c.calmdown), .int .i64 (c.podsup), .int .i64 (c.pctup), .int .i64 (c.podsdown), .int .i64 (c.pctdown), .int .i64 (c.period), .int .i64 (c.far), .int .i64 (c.strikes), .int .i64 (c.probe), .int .i64 (c.sectors), .int .u64 (c.seed)] 26 (0, 0)) :: (slH τ 76 (ols.map pp) ++ ((nws.map fun p => rpO p c.window 0 none 0 0) ++ ((ols.map fun p => rpO p c.window 0 none 0 0) ++ M)))) (fun w h => ro_mv (A := [_, _, _, _, _, _]) w h.drop) rfl rfl sl69 sz76 by76 ze76 rfl hok (.inl ⟨_, _, rfl, ⟨76, us69⟩, .some (Rd.get (i := 0) rfl rfl)⟩) rfl (one_ptr pb) (by omega) (by omega)) ?_
   rintro _ _ ⟨σ1, rfl, hok1, rfl⟩
   refine ⟨(by repeat (first | exact Go.X.ro_s | refine Go.X.ro_tail ?_)), ?_⟩
   refine TG.one 17 (by kernel_rfl) ?_
   refine TP.dz false 262143 (some 41) rfl rfl rfl rfl (Does.callF go34 rfl (rpNew_fn c.window _ hwin)) ?_
   rintro _ _ ⟨qb, rfl, rfl⟩
   refine ⟨(by repeat (first | exact Go.X.ro_s | refine Go.X.ro_tail ?_)), ?_⟩
   refine TG.one 18 (by kernel_rfl) ?_
   refine TP.dz false 524287 (some 42) rfl rfl rfl rfl (Does.buildSlice sl69 sz76 ze76 (by decide) (by decide) rfl rfl rfl) ?_
   rintro _ _ ⟨bu, rfl, rfl⟩
   refine ⟨(by repeat (first | exact Go.X.ro_s | refine Go.X.ro_tail ?_)), ?_⟩
   refine TG.one 19 (by kernel_rfl) ?_
   refine TP.dz false 1048575 (some 43) rfl rfl rfl rfl (Does.appendS (xs := ols.map pp) (ys := [.pointer (some ⟨qb, 0, none⟩)]) τ (rpO qb c.window 0 none 0 0 :: (slH σ1 76 (nws.map pp ++ [.pointer (some ⟨pb, 0, none⟩)]) ++ (rpO pb c.window 0 none 0 0 :: rgO gb c rb (slA σ) k (slC σ) (slA τ) k (slC τ) :: rrO rb c.seed c.grace lg ls N :: (lg, row 3 (gens (List.replicate N (⟨0, 0⟩ : On)))) :: (ls, row 2 (sinces (List.replicate N (⟨0, 0⟩ : On)))) :: (b1, .cells #[.int .i64 (c.n), .int .i64 (c.f), .int .i64 (c.m), .int .i64 (c.quorum), .int .i64 (c.fresh), .int .i64 (c.grace), .int .i64 (c.window), .int .i64 (c.t0), .int .i64 (c.t1), .int .i64 (c.t2), .int .i64 (c.t3), .int .i64 (c.tol), .int .i64 (c.min), .int .i64 (c.max), .int .i64 (c.calmup), .int .i64 (c.calmdown), .int .i64 (c.podsup), .int .i64 (c.pctup), .int .i64 (c.podsdown), .int .i64 (c.pctdown), .int .i64 (c.period), .int .i64 (c.far), .int .i64 (c.strikes), .int .i64 (c.probe), .int .i64 (c.sectors), .int .u64 (c.seed)] 26 (0, 0)) :: ((nws.map fun p => rpO p c.window 0 none 0 0) ++ ((ols.map fun p => rpO p c.window 0 none 0 0) ++ M))))) (fun w h => Own.ac h.drop) rfl rfl sl69 sz76 by76 ze76 rfl hokt (.inl ⟨_, _, rfl, ⟨76, us69⟩, .some (Rd.get (i := 0) rfl rfl)⟩) rfl (one_ptr qb) (by omega) (by omega)) ?_
   rintro _ _ ⟨τ1, rfl, hokt1, rfl⟩
   refine ⟨(by repeat (first | exact Go.X.ro_s | refine Go.X.ro_tail ?_)), ?_⟩
   refine TG.heap (M' := rgO gb c rb (slA σ) k (slC σ) (slA τ) k (slC τ) :: rrO rb c.seed c.grace lg ls N :: (lg, row 3 (gens (List.replicate N (⟨0, 0⟩ : On)))) :: (ls, row 2 (sinces (List.replicate N (⟨0, 0⟩ : On)))) :: (b1, .cells #[.int .i64 (c.n), .int .i64 (c.f), .int .i64 (c.m), .int .i64 (c.quorum), .int .i64 (c.fresh), .int .i64 (c.grace), .int .i64 (c.window), .int .i64 (c.t0), .int .i64 (c.t1), .int .i64 (c.t2), .int .i64 (c.t3), .int .i64 (c.tol), .int .i64 (c.min), .int .i64 (c.max), .int .i64 (c.calmup), .int .i64 (c.calmdown), .int .i64 (c.podsup), .int .i64 (c.pctup), .int .i64 (c.podsdown), .int .i64 (c.pctdown), .int .i64 (c.period), .int .i64 (c.far), .int .i64 (c.strikes), .int .i64 (c.probe), .int .i64 (c.sectors), .int .u64 (c.seed)] 26 (0, 0)) :: (slH σ1 76 (nws.map pp ++ [.pointer (some ⟨pb, 0, none⟩)]) ++ (slH τ1 76 (ols.map pp ++ [.pointer (some ⟨qb, 0, none⟩)]) ++ (rpO pb c.window 0 none 0 0 :: rpO qb c.window 0 none 0 0 :: ((nws.map fun p => rpO p c.window 0 none 0 0) ++ ((ols.map fun p => rpO p c.window 0 none 0 0) ++ M)))))) (fun w h => Own.ac h) ?_
   refine TG.tw false 20 2097151 rfl rfl rfl (Val.nilCheck rfl) ?_ (hro := (by repeat (first | exact Go.X.ro_s | refine Go.X.ro_tail ?_)))
   refine TG.tk false 21 4194303 rfl rfl rfl (Val.fieldAddr rfl fl71_2 sz69 rfl) ?_ (hro := (by repeat (first | exact Go.X.ro_s | refine Go.X.ro_tail ?_)))
   refine TG.one 22 (by kernel_rfl) ?_
   refine TP.dz true 8388607 none rfl rfl rfl rfl (Does.store (i := 0) rfl rfl rfl sz69 rfl rfl (by first | exact Nat.le_of_ble_eq_true rfl | decide | omega) rfl rfl) ?_
   rintro _ _ ⟨rfl, rfl⟩
   refine ⟨(by repeat (first | exact Go.X.ro_s | refine Go.X.ro_tail ?_)), ?_⟩
   refine TG.tk true 23 16777215 rfl rfl rfl (Val.nilCheck rfl) ?_ (hro := (by repeat (first | exact Go.X.ro_s | refine Go.X.ro_tail ?_)))
   refine TG.tk true 24 33554431 rfl rfl rfl (Val.fieldAddr rfl fl71_3 sz69 rfl) ?_ (hro := (by repeat (first | exact Go.X.ro_s | refine Go.X.ro_tail ?_)))
   refine TG.one 25 (by kernel_rfl) ?_
   refine TP.dz true 67108863 none rfl rfl rfl rfl (Does.store (i := 0) rfl rfl rfl sz69 rfl rfl (by first | exact Nat.le_of_ble_eq_true rfl | decide | omega) rfl rfl) ?_
   rintro _ _ ⟨rfl, rfl⟩
   refine ⟨(by repeat (first | exact Go.X.ro_s | refine Go.X.ro_tail ?_)), ?_⟩
   refine TG.done (by kernel_rfl) ?_ _
   refine AtX.blk ?_
   refine AtX.then ?_
   refine TC.region ?_
   refine TL.v (Val.move rfl) ?_
   refine TL.v (Val.add rfl rfl (w_i64 (by omega) (by omega))) ?_
   refine TL.v (Val.assign rfl) ?_
   refine TL.nil ?_
   refine AtX.round (i := (k, σ, τ, nws, ols)) (k + 1, σ1, τ1, nws ++ [pb], ols ++ [qb]) ?_ ?_ (Sub.cons rfl (Sub.cons rfl (Sub.cons rfl (Sub.nil _)))) (fun w h => by dsimp only; rw [List.map_append, List.map_append, List.map_append, List.map_append]; exact ro_gi (A := [_, _, _, _, _]) w h)
   · exact ⟨by omega, by simp [hnl], by simp [hol], by dsimp only; rw [List.map_append]; exact hok1, by dsimp only; rw [List.map_append]; exact hokt1⟩
   · show N - (k + 1) < N - k; omega
  ·
   refine TC.exit ?_
   refine AtX.seqX ?_
   refine AtX.seqX ?_
   refine AtX.hit ?_
   refine AtX.then ?_
   refine TC.seq ?_
   have hkN : k = N := by omega
   subst hkN
   obtain ⟨nb, cn, sn, rfl, hcn⟩ := hok.some (by omega)
   obtain ⟨ob, co, so, rfl, hco⟩ := hokt.some (by omega)
   refine TC.region ?_
   refine TL.v (Val.move rfl) ?_
   refine TL.v (Val.assign rfl) ?_
   refine TL.nt ?_
   refine TC.en (E' := [(2, _)]) ?_
   refine TC.r1 (hM := (fun w h => ro_del 4 rfl w h)) (M' := rgO gb c rb (some ⟨nb, 0, none⟩) k cn (some ⟨ob, 0, none⟩) k co :: rrO rb c.seed c.grace lg ls k :: (lg, row 3 (gens (List.replicate k (⟨0, 0⟩ : On)))) :: (ls, row 2 (sinces (List.replicate k (⟨0, 0⟩ : On)))) :: (nb, row 76 (nws.map pp ++ sn)) :: (ob, row 76 (ols.map pp ++ so)) :: ((nws.map fun p => rpO p c.window 0 none 0 0) ++ ((ols.map fun p => rpO p c.window 0 none 0 0) ++ M))) (fn := Tryz.f7) (fun _ _ h => h) rfl (RV.tmp rfl) ?_
   exact ⟨gb, rb, lg, ls, nb, cn, sn, ob, co, so, nws, ols, rfl, hnl, hol, rfl⟩

end Go.Proofs.YtphoapajlcaoeaaGreat
