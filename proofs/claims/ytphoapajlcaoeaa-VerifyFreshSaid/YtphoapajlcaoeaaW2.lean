/- Texts put together: A8, A11, A12, A21, A22, A23. -/
import Derived.Test.YtphoapajlcaoeaaW1
import Derived.Test.YtphoapajlcaoeaaG1
import Derived.Test.YtphoapajlcaoeaaG2
/- walks -/
set_option linter.unusedVariables false
set_option linter.unusedSimpArgs false
set_option maxRecDepth 100000
set_option maxHeartbeats 4000000
namespace Go.Proofs.Ytphoapajlcaoeaa
open Go Go.X
/-- quorumite/conf.parts -/
theorem parts_fn (c : Cf) (M : Hp) (hn : 0 ≤ c.n ∧ c.n ≤ 1000) (hf : 0 ≤ c.f ∧ c.f ≤ 16) (ht : tg c) : FnC Try.prog 108 #[.agg #[.int .i64 (c.n), .int .i64 (c.f), .int .i64 (c.m), .int .i64 (c.quorum), .int .i64 (c.fresh), .int .i64 (c.grace), .int .i64 (c.window), .int .i64 (c.t0), .int .i64 (c.t1), .int .i64 (c.t2), .int .i64 (c.t3), .int .i64 (c.tol), .int .i64 (c.min), .int .i64 (c.max), .int .i64 (c.calmup), .int .i64 (c.calmdown), .int .i64 (c.podsup), .int .i64 (c.pctup), .int .i64 (c.podsdown), .int .i64 (c.pctdown), .int .i64 (c.period), .int .i64 (c.far), .int .i64 (c.strikes), .int .i64 (c.probe), .int .i64 (c.sectors), .int .u64 (c.seed)]] M (fun v M' => ∃ b, v = .slice (some ⟨b, 0, none⟩) 22 22 ∧ M' = (b, row 176 ((partsL c c.f 1).flatMap Pt.cs)) :: M) := by
  refine FnC.intro Try.func108 rfl 135 rfl (by simp) (fun z => ?_)
  refine TC.env (E' := [(0, _)]) (Sub.cons rfl (Sub.nil _)) ?_
  refine TC.seq ?_
  refine TC.region ?_
  refine TL.does (some 1) rfl rfl rfl (Does.box rfl rfl) ?_
  rintro _ _ ⟨b1, rfl, rfl⟩
  refine TL.val rfl rfl (Nat.le_of_ble_eq_true rfl) (Val.assign rfl) ?_
  refine TL.nil ?_
  refine AtX.then ?_
  refine TC.env (E' := [(1, _), (2, _)]) (Sub.cons rfl (Sub.cons rfl (Sub.nil _))) ?_
  refine TC.seq ?_
  refine TC.region ?_
  refine TL.val rfl rfl (Nat.le_of_ble_eq_true rfl) (Val.assign rfl) ?_
  refine TL.nil ?_
  refine AtX.then ?_
  refine TC.env (E' := [(1, _), (2, _), (3, _)]) (Sub.cons rfl (Sub.cons rfl (Sub.cons rfl (Sub.nil _)))) ?_
  refine TC.seq ?_
  refine TC.region ?_
  refine TL.val rfl rfl (Nat.le_of_ble_eq_true rfl) (Val.move rfl) ?_
  refine TL.val rfl rfl (Nat.le_of_ble_eq_true rfl) (Val.fieldAddr rfl fl26_1 sz3 rfl) ?_
  first
    | refine TL.val rfl rfl (Nat.le_of_ble_eq_true rfl) (Val.load 0 rfl ag3 rfl rfl) ?_
    | refine TL.val rfl rfl (Nat.le_of_ble_eq_true rfl) (Val.load 1 rfl ag3 rfl rfl) ?_
    | refine TL.val rfl rfl (Nat.le_of_ble_eq_true rfl) (Val.load 2 rfl ag3 rfl rfl) ?_
    | refine TL.val rfl rfl (Nat.le_of_ble_eq_true rfl) (Val.load 3 rfl ag3 rfl rfl) ?_
    | refine TL.val rfl rfl (Nat.le_of_ble_eq_true rfl) (Val.load 4 rfl ag3 rfl rfl) ?_
    | refine TL.val rfl rfl (Nat.le_of_ble_eq_true rfl) (Val.load 5 rfl ag3 rfl rfl) ?_
  refine TL.val rfl rfl (Nat.le_of_ble_eq_true rfl) (Val.max rfl rfl (r := c.f) (by split <;> omega)) ?_
  refine TL.val rfl rfl (Nat.le_of_ble_eq_true rfl) (Val.min rfl rfl (r := c.f) (by split <;> omega)) ?_
  refine TL.does (some 10) rfl rfl rfl (Does.callV rfl go117 rfl (clo_fn _ _)) ?_
  rintro _ _ ⟨rfl, rfl⟩
  refine TL.val rfl rfl (Nat.le_of_ble_eq_true rfl) (Val.assign rfl) ?_
  refine TL.nil ?_
  refine AtX.then ?_
  refine TC.env (E' := [(1, _), (2, _), (3, _), (4, _)]) (Sub.cons rfl (Sub.cons rfl (Sub.cons rfl (Sub.cons rfl (Sub.nil _))))) ?_
  refine TC.seq ?_
  refine TC.drawF ((b1, .cells #[.int .i64 (c.n), .int .i64 (c.f), .int .i64 (c.m), .int .i64 (c.quorum), .int .i64 (c.fresh), .int .i64 (c.grace), .int .i64 (c.window), .int .i64 (c.t0), .int .i64 (c.t1), .int .i64 (c.t2), .int .i64 (c.t3), .int .i64 (c.tol), .int .i64 (c.min), .int .i64 (c.max), .int .i64 (c.calmup), .int .i64 (c.calmdown), .int .i64 (c.podsup), .int .i64 (c.pctup), .int .i64 (c.podsdown), .int .i64 (c.pctdown), .int .i64 (c.period), .int .i64 (c.far), .int .i64 (c.strikes), .int .i64 (c.probe), .int .i64 (c.sectors), .int .u64 (c.seed)] 26 (0, 0)) :: M) mixed 125 (by kernel_rfl) (by kernel_rfl) ?_
  refine TF.tk 0 1 rfl rfl rfl (Val.move rfl) ?_
  refine TF.tk 1 3 rfl rfl rfl (Val.fieldAddr rfl fl26_0 sz3 rfl) ?_
  first
    | refine TF.tk 2 7 rfl rfl rfl (Val.load 0 rfl ag3 rfl rfl) ?_
    | refine TF.tk 2 7 rfl rfl rfl (Val.load 1 rfl ag3 rfl rfl) ?_
    | refine TF.tk 2 7 rfl rfl rfl (Val.load 2 rfl ag3 rfl rfl) ?_
    | refine TF.tk 2 7 rfl rfl rfl (Val.load 3 rfl ag3 rfl rfl) ?_
    | refine TF.tk 2 7 rfl rfl rfl (Val.load 4 rfl ag3 rfl rfl) ?_
    | refine TF.tk 2 7 rfl rfl rfl (Val.load 5 rfl ag3 rfl rfl) ?_
  refine TF.tk 5 39 rfl rfl rfl (Val.move rfl) ?_
  refine TF.tk 6 103 rfl rfl rfl (Val.fieldAddr rfl fl26_1 sz3 rfl) ?_
  first
    | refine TF.tk 7 231 rfl rfl rfl (Val.load 0 rfl ag3 rfl rfl) ?_
    | refine TF.tk 7 231 rfl rfl rfl (Val.load 1 rfl ag3 rfl rfl) ?_
    | refine TF.tk 7 231 rfl rfl rfl (Val.load 2 rfl ag3 rfl rfl) ?_
    | refine TF.tk 7 231 rfl rfl rfl (Val.load 3 rfl ag3 rfl rfl) ?_
    | refine TF.tk 7 231 rfl rfl rfl (Val.load 4 rfl ag3 rfl rfl) ?_
    | refine TF.tk 7 231 rfl rfl rfl (Val.load 5 rfl ag3 rfl rfl) ?_
  refine TF.tk 9 743 rfl rfl rfl (Val.move rfl) ?_
  refine TF.tk 10 1767 rfl rfl rfl (Val.fieldAddr rfl fl26_0 sz3 rfl) ?_
  first
    | refine TF.tk 11 3815 rfl rfl rfl (Val.load 0 rfl ag3 rfl rfl) ?_
    | refine TF.tk 11 3815 rfl rfl rfl (Val.load 1 rfl ag3 rfl rfl) ?_
    | refine TF.tk 11 3815 rfl rfl rfl (Val.load 2 rfl ag3 rfl rfl) ?_
    | refine TF.tk 11 3815 rfl rfl rfl (Val.load 3 rfl ag3 rfl rfl) ?_
    | refine TF.tk 11 3815 rfl rfl rfl (Val.load 4 rfl ag3 rfl rfl) ?_
    | refine TF.tk 11 3815 rfl rfl rfl (Val.load 5 rfl ag3 rfl rfl) ?_
  refine TF.tk 16 69351 rfl rfl rfl (Val.move rfl) ?_
  refine TF.tk 17 200423 rfl rfl rfl (Val.fieldAddr rfl fl26_2 sz3 rfl) ?_
  first
    | refine TF.tk 18 462567 rfl rfl rfl (Val.load 0 rfl ag3 rfl rfl) ?_
    | refine TF.tk 18 462567 rfl rfl rfl (Val.load 1 rfl ag3 rfl rfl) ?_
    | refine TF.tk 18 462567 rfl rfl rfl (Val.load 2 rfl ag3 rfl rfl) ?_
    | refine TF.tk 18 462567 rfl rfl rfl (Val.load 3 rfl ag3 rfl rfl) ?_
    | refine TF.tk 18 462567 rfl rfl rfl (Val.load 4 rfl ag3 rfl rfl) ?_
    | refine TF.tk 18 462567 rfl rfl rfl (Val.load 5 rfl ag3 rfl rfl) ?_
  refine TF.tk 21 2559719 rfl rfl rfl (Val.move rfl) ?_
  refine TF.tk 22 6754023 rfl rfl rfl (Val.fieldAddr rfl fl26_3 sz3 rfl) ?_
  first
    | refine TF.tk 23 15142631 rfl rfl rfl (Val.load 0 rfl ag3 rfl rfl) ?_
    | refine TF.tk 23 15142631 rfl rfl rfl (Val.load 1 rfl ag3 rfl rfl) ?_
    | refine TF.tk 23 15142631 rfl rfl rfl (Val.load 2 rfl ag3 rfl rfl) ?_
    | refine TF.tk 23 15142631 rfl rfl rfl (Val.load 3 rfl ag3 rfl rfl) ?_
    | refine TF.tk 23 15142631 rfl rfl rfl (Val.load 4 rfl ag3 rfl rfl) ?_
    | refine TF.tk 23 15142631 rfl rfl rfl (Val.load 5 rfl ag3 rfl rfl) ?_
  refine TF.tk 25 48697063 rfl rfl rfl (Val.move rfl) ?_
  refine TF.tk 26 115805927 rfl rfl rfl (Val.mul rfl rfl (r := 2 * c.f) (w_i64 (by omega) (by omega))) ?_
  refine TF.tk 27 250023655 rfl rfl rfl (Val.add rfl rfl (r := 2 * c.f + 1) (w_i64 (by omega) (by omega))) ?_
  refine TF.tk 28 518459111 rfl rfl rfl (Val.move rfl) ?_
  refine TF.tk 29 1055330023 rfl rfl rfl (Val.fieldAddr rfl fl26_0 sz3 rfl) ?_
  first
    | refine TF.tk 30 2129071847 rfl rfl rfl (Val.load 0 rfl ag3 rfl rfl) ?_
    | refine TF.tk 30 2129071847 rfl rfl rfl (Val.load 1 rfl ag3 rfl rfl) ?_
    | refine TF.tk 30 2129071847 rfl rfl rfl (Val.load 2 rfl ag3 rfl rfl) ?_
    | refine TF.tk 30 2129071847 rfl rfl rfl (Val.load 3 rfl ag3 rfl rfl) ?_
    | refine TF.tk 30 2129071847 rfl rfl rfl (Val.load 4 rfl ag3 rfl rfl) ?_
    | refine TF.tk 30 2129071847 rfl rfl rfl (Val.load 5 rfl ag3 rfl rfl) ?_
  refine TF.tk 33 10719006439 rfl rfl rfl (Val.move rfl) ?_
  refine TF.tk 34 27898875623 rfl rfl rfl (Val.fieldAddr rfl fl26_4 sz3 rfl) ?_
  first
    | refine TF.tk 35 62258613991 rfl rfl rfl (Val.load 0 rfl ag3 rfl rfl) ?_
    | refine TF.tk 35 62258613991 rfl rfl rfl (Val.load 1 rfl ag3 rfl rfl) ?_
    | refine TF.tk 35 62258613991 rfl rfl rfl (Val.load 2 rfl ag3 rfl rfl) ?_
    | refine TF.tk 35 62258613991 rfl rfl rfl (Val.load 3 rfl ag3 rfl rfl) ?_
    | refine TF.tk 35 62258613991 rfl rfl rfl (Val.load 4 rfl ag3 rfl rfl) ?_
    | refine TF.tk 35 62258613991 rfl rfl rfl (Val.load 5 rfl ag3 rfl rfl) ?_
  refine TF.tk 38 337136520935 rfl rfl rfl (Val.move rfl) ?_
  refine TF.tk 39 886892334823 rfl rfl rfl (Val.fieldAddr rfl fl26_5 sz3 rfl) ?_
  first
    | refine TF.tk 40 1986403962599 rfl rfl rfl (Val.load 0 rfl ag3 rfl rfl) ?_
    | refine TF.tk 40 1986403962599 rfl rfl rfl (Val.load 1 rfl ag3 rfl rfl) ?_
    | refine TF.tk 40 1986403962599 rfl rfl rfl (Val.load 2 rfl ag3 rfl rfl) ?_
    | refine TF.tk 40 1986403962599 rfl rfl rfl (Val.load 3 rfl ag3 rfl rfl) ?_
    | refine TF.tk 40 1986403962599 rfl rfl rfl (Val.load 4 rfl ag3 rfl rfl) ?_
    | refine TF.tk 40 1986403962599 rfl rfl rfl (Val.load 5 rfl ag3 rfl rfl) ?_
  refine TF.tk 43 10782496984807 rfl rfl rfl (Val.move rfl) ?_
  refine TF.tk 44 28374683029223 rfl rfl rfl (Val.fieldAddr rfl fl26_6 sz3 rfl) ?_
  first
    | refine TF.tk 45 63559055118055 rfl rfl rfl (Val.load 0 rfl ag3 rfl rfl) ?_
    | refine TF.tk 45 63559055118055 rfl rfl rfl (Val.load 1 rfl ag3 rfl rfl) ?_
    | refine TF.tk 45 63559055118055 rfl rfl rfl (Val.load 2 rfl ag3 rfl rfl) ?_
    | refine TF.tk 45 63559055118055 rfl rfl rfl (Val.load 3 rfl ag3 rfl rfl) ?_
    | refine TF.tk 45 63559055118055 rfl rfl rfl (Val.load 4 rfl ag3 rfl rfl) ?_
    | refine TF.tk 45 63559055118055 rfl rfl rfl (Val.load 5 rfl ag3 rfl rfl) ?_
  first
    | refine TF.tk 48 345034031828711 rfl rfl rfl (Val.loadAgg 0 rfl ag26 sz26 rfl rfl rfl) ?_
    | refine TF.tk 48 345034031828711 rfl rfl rfl (Val.loadAgg 1 rfl ag26 sz26 rfl rfl rfl) ?_
    | refine TF.tk 48 345034031828711 rfl rfl rfl (Val.loadAgg 2 rfl ag26 sz26 rfl rfl rfl) ?_
    | refine TF.tk 48 345034031828711 rfl rfl rfl (Val.loadAgg 3 rfl ag26 sz26 rfl rfl rfl) ?_
    | refine TF.tk 48 345034031828711 rfl rfl rfl (Val.loadAgg 4 rfl ag26 sz26 rfl rfl rfl) ?_
    | refine TF.tk 48 345034031828711 rfl rfl rfl (Val.loadAgg 5 rfl ag26 sz26 rfl rfl rfl) ?_
  refine TF.tk 51 2596833845513959 rfl rfl rfl (Val.move rfl) ?_
  refine TF.tk 52 7100433472884455 rfl rfl rfl (Val.fieldAddr rfl fl26_8 sz3 rfl) ?_
  first
    | refine TF.tk 53 16107632727625447 rfl rfl rfl (Val.load 0 rfl ag3 rfl rfl) ?_
    | refine TF.tk 53 16107632727625447 rfl rfl rfl (Val.load 1 rfl ag3 rfl rfl) ?_
    | refine TF.tk 53 16107632727625447 rfl rfl rfl (Val.load 2 rfl ag3 rfl rfl) ?_
    | refine TF.tk 53 16107632727625447 rfl rfl rfl (Val.load 3 rfl ag3 rfl rfl) ?_
    | refine TF.tk 53 16107632727625447 rfl rfl rfl (Val.load 4 rfl ag3 rfl rfl) ?_
    | refine TF.tk 53 16107632727625447 rfl rfl rfl (Val.load 5 rfl ag3 rfl rfl) ?_
  refine TF.tk 56 88165226765553383 rfl rfl rfl (Val.move rfl) ?_
  refine TF.tk 57 232280414841409255 rfl rfl rfl (Val.fieldAddr rfl fl26_9 sz3 rfl) ?_
  first
    | refine TF.tk 58 520510790993120999 rfl rfl rfl (Val.load 0 rfl ag3 rfl rfl) ?_
    | refine TF.tk 58 520510790993120999 rfl rfl rfl (Val.load 1 rfl ag3 rfl rfl) ?_
    | refine TF.tk 58 520510790993120999 rfl rfl rfl (Val.load 2 rfl ag3 rfl rfl) ?_
    | refine TF.tk 58 520510790993120999 rfl rfl rfl (Val.load 3 rfl ag3 rfl rfl) ?_
    | refine TF.tk 58 520510790993120999 rfl rfl rfl (Val.load 4 rfl ag3 rfl rfl) ?_
    | refine TF.tk 58 520510790993120999 rfl rfl rfl (Val.load 5 rfl ag3 rfl rfl) ?_
  refine TF.tk 61 2826353800206814951 rfl rfl rfl (Val.move rfl) ?_
  refine TF.tk 62 7438039818634202855 rfl rfl rfl (Val.fieldAddr rfl fl26_10 sz3 rfl) ?_
  first
    | refine TF.tk 63 16661411855488978663 rfl rfl rfl (Val.load 0 rfl ag3 rfl rfl) ?_
    | refine TF.tk 63 16661411855488978663 rfl rfl rfl (Val.load 1 rfl ag3 rfl rfl) ?_
    | refine TF.tk 63 16661411855488978663 rfl rfl rfl (Val.load 2 rfl ag3 rfl rfl) ?_
    | refine TF.tk 63 16661411855488978663 rfl rfl rfl (Val.load 3 rfl ag3 rfl rfl) ?_
    | refine TF.tk 63 16661411855488978663 rfl rfl rfl (Val.load 4 rfl ag3 rfl rfl) ?_
    | refine TF.tk 63 16661411855488978663 rfl rfl rfl (Val.load 5 rfl ag3 rfl rfl) ?_
  refine TF.tk 65 53554900002908081895 rfl rfl rfl (Val.move rfl) ?_
  refine TF.tk 66 127341876297746288359 rfl rfl rfl (Val.fieldAddr rfl fl26_9 sz3 rfl) ?_
  first
    | refine TF.tk 67 274915828887422701287 rfl rfl rfl (Val.load 0 rfl ag3 rfl rfl) ?_
    | refine TF.tk 67 274915828887422701287 rfl rfl rfl (Val.load 1 rfl ag3 rfl rfl) ?_
    | refine TF.tk 67 274915828887422701287 rfl rfl rfl (Val.load 2 rfl ag3 rfl rfl) ?_
    | refine TF.tk 67 274915828887422701287 rfl rfl rfl (Val.load 3 rfl ag3 rfl rfl) ?_
    | refine TF.tk 67 274915828887422701287 rfl rfl rfl (Val.load 4 rfl ag3 rfl rfl) ?_
    | refine TF.tk 67 274915828887422701287 rfl rfl rfl (Val.load 5 rfl ag3 rfl rfl) ?_
  refine TF.tk 70 1455507449604834004711 rfl rfl rfl (Val.move rfl) ?_
  refine TF.tk 71 3816690691039656611559 rfl rfl rfl (Val.fieldAddr rfl fl26_11 sz3 rfl) ?_
  first
    | refine TF.tk 72 8539057173909301825255 rfl rfl rfl (Val.load 0 rfl ag3 rfl rfl) ?_
    | refine TF.tk 72 8539057173909301825255 rfl rfl rfl (Val.load 1 rfl ag3 rfl rfl) ?_
    | refine TF.tk 72 8539057173909301825255 rfl rfl rfl (Val.load 2 rfl ag3 rfl rfl) ?_
    | refine TF.tk 72 8539057173909301825255 rfl rfl rfl (Val.load 3 rfl ag3 rfl rfl) ?_
    | refine TF.tk 72 8539057173909301825255 rfl rfl rfl (Val.load 4 rfl ag3 rfl rfl) ?_
    | refine TF.tk 72 8539057173909301825255 rfl rfl rfl (Val.load 5 rfl ag3 rfl rfl) ?_
  refine TF.tk 75 46317989036866463534823 rfl rfl rfl (Val.move rfl) ?_
  refine TF.tk 76 121875852762780786953959 rfl rfl rfl (Val.fieldAddr rfl fl26_12 sz3 rfl) ?_
  first
    | refine TF.tk 77 272991580214609433792231 rfl rfl rfl (Val.load 0 rfl ag3 rfl rfl) ?_
    | refine TF.tk 77 272991580214609433792231 rfl rfl rfl (Val.load 1 rfl ag3 rfl rfl) ?_
    | refine TF.tk 77 272991580214609433792231 rfl rfl rfl (Val.load 2 rfl ag3 rfl rfl) ?_
    | refine TF.tk 77 272991580214609433792231 rfl rfl rfl (Val.load 3 rfl ag3 rfl rfl) ?_
    | refine TF.tk 77 272991580214609433792231 rfl rfl rfl (Val.load 4 rfl ag3 rfl rfl) ?_
    | refine TF.tk 77 272991580214609433792231 rfl rfl rfl (Val.load 5 rfl ag3 rfl rfl) ?_
  refine TF.tk 80 1481917399829238608498407 rfl rfl rfl (Val.move rfl) ?_
  refine TF.tk 81 3899769039058496957910759 rfl rfl rfl (Val.fieldAddr rfl fl26_13 sz3 rfl) ?_
  first
    | refine TF.tk 82 8735472317517013656735463 rfl rfl rfl (Val.load 0 rfl ag3 rfl rfl) ?_
    | refine TF.tk 82 8735472317517013656735463 rfl rfl rfl (Val.load 1 rfl ag3 rfl rfl) ?_
    | refine TF.tk 82 8735472317517013656735463 rfl rfl rfl (Val.load 2 rfl ag3 rfl rfl) ?_
    | refine TF.tk 82 8735472317517013656735463 rfl rfl rfl (Val.load 3 rfl ag3 rfl rfl) ?_
    | refine TF.tk 82 8735472317517013656735463 rfl rfl rfl (Val.load 4 rfl ag3 rfl rfl) ?_
    | refine TF.tk 82 8735472317517013656735463 rfl rfl rfl (Val.load 5 rfl ag3 rfl rfl) ?_
  refine TF.tk 85 47421098545185147247333095 rfl rfl rfl (Val.move rfl) ?_
  refine TF.tk 86 124792351000521414428528359 rfl rfl rfl (Val.fieldAddr rfl fl26_14 sz3 rfl) ?_
  first
    | refine TF.tk 87 279534855911193948790918887 rfl rfl rfl (Val.load 0 rfl ag3 rfl rfl) ?_
    | refine TF.tk 87 279534855911193948790918887 rfl rfl rfl (Val.load 1 rfl ag3 rfl rfl) ?_
    | refine TF.tk 87 279534855911193948790918887 rfl rfl rfl (Val.load 2 rfl ag3 rfl rfl) ?_
    | refine TF.tk 87 279534855911193948790918887 rfl rfl rfl (Val.load 3 rfl ag3 rfl rfl) ?_
    | refine TF.tk 87 279534855911193948790918887 rfl rfl rfl (Val.load 4 rfl ag3 rfl rfl) ?_
    | refine TF.tk 87 279534855911193948790918887 rfl rfl rfl (Val.load 5 rfl ag3 rfl rfl) ?_
  refine TF.tk 90 1517474895196574223690043111 rfl rfl rfl (Val.move rfl) ?_
  refine TF.tk 91 3993354973767334773488291559 rfl rfl rfl (Val.fieldAddr rfl fl26_15 sz3 rfl) ?_
  first
    | refine TF.tk 92 8945115130908855873084788455 rfl rfl rfl (Val.load 0 rfl ag3 rfl rfl) ?_
    | refine TF.tk 92 8945115130908855873084788455 rfl rfl rfl (Val.load 1 rfl ag3 rfl rfl) ?_
    | refine TF.tk 92 8945115130908855873084788455 rfl rfl rfl (Val.load 2 rfl ag3 rfl rfl) ?_
    | refine TF.tk 92 8945115130908855873084788455 rfl rfl rfl (Val.load 3 rfl ag3 rfl rfl) ?_
    | refine TF.tk 92 8945115130908855873084788455 rfl rfl rfl (Val.load 4 rfl ag3 rfl rfl) ?_
    | refine TF.tk 92 8945115130908855873084788455 rfl rfl rfl (Val.load 5 rfl ag3 rfl rfl) ?_
  refine TF.tk 95 48559196388041024669856763623 rfl rfl rfl (Val.move rfl) ?_
  refine TF.tk 96 127787358902305362263400713959 rfl rfl rfl (Val.fieldAddr rfl fl26_16 sz3 rfl) ?_
  first
    | refine TF.tk 97 286243683930834037450488614631 rfl rfl rfl (Val.load 0 rfl ag3 rfl rfl) ?_
    | refine TF.tk 97 286243683930834037450488614631 rfl rfl rfl (Val.load 1 rfl ag3 rfl rfl) ?_
    | refine TF.tk 97 286243683930834037450488614631 rfl rfl rfl (Val.load 2 rfl ag3 rfl rfl) ?_
    | refine TF.tk 97 286243683930834037450488614631 rfl rfl rfl (Val.load 3 rfl ag3 rfl rfl) ?_
    | refine TF.tk 97 286243683930834037450488614631 rfl rfl rfl (Val.load 4 rfl ag3 rfl rfl) ?_
    | refine TF.tk 97 286243683930834037450488614631 rfl rfl rfl (Val.load 5 rfl ag3 rfl rfl) ?_
  refine TF.tk 100 1553894284159063438947191820007 rfl rfl rfl (Val.move rfl) ?_
  refine TF.tk 101 4089195484615522241940598230759 rfl rfl rfl (Val.fieldAddr rfl fl26_17 sz3 rfl) ?_
  first
    | refine TF.tk 102 9159797885528439847927411052263 rfl rfl rfl (Val.load 0 rfl ag3 rfl rfl) ?_
    | refine TF.tk 102 9159797885528439847927411052263 rfl rfl rfl (Val.load 1 rfl ag3 rfl rfl) ?_
    | refine TF.tk 102 9159797885528439847927411052263 rfl rfl rfl (Val.load 2 rfl ag3 rfl rfl) ?_
    | refine TF.tk 102 9159797885528439847927411052263 rfl rfl rfl (Val.load 3 rfl ag3 rfl rfl) ?_
    | refine TF.tk 102 9159797885528439847927411052263 rfl rfl rfl (Val.load 4 rfl ag3 rfl rfl) ?_
    | refine TF.tk 102 9159797885528439847927411052263 rfl rfl rfl (Val.load 5 rfl ag3 rfl rfl) ?_
  refine TF.tk 105 49724617092831780695821913624295 rfl rfl rfl (Val.fieldAddr rfl fl26_18 sz2 rfl) ?_
  first
    | refine TF.tk 106 130854255507438462391610918768359 rfl rfl rfl (Val.load 0 rfl ag2 rfl rfl) ?_
    | refine TF.tk 106 130854255507438462391610918768359 rfl rfl rfl (Val.load 1 rfl ag2 rfl rfl) ?_
    | refine TF.tk 106 130854255507438462391610918768359 rfl rfl rfl (Val.load 2 rfl ag2 rfl rfl) ?_
    | refine TF.tk 106 130854255507438462391610918768359 rfl rfl rfl (Val.load 3 rfl ag2 rfl rfl) ?_
    | refine TF.tk 106 130854255507438462391610918768359 rfl rfl rfl (Val.load 4 rfl ag2 rfl rfl) ?_
    | refine TF.tk 106 130854255507438462391610918768359 rfl rfl rfl (Val.load 5 rfl ag2 rfl rfl) ?_
  refine TF.tk 107 293113532336651825783188929056487 rfl rfl rfl (Val.buildS (cs := Pt.cs ⟨[102, 97, 114], c.far, 0, 1099511627776⟩) pl176 ze176 rfl rfl) ?_
  refine TF.tk 108 617632085995078552566344949632743 rfl rfl rfl (Val.move rfl) ?_
  refine TF.tk 109 1266669193311932006132656990785255 rfl rfl rfl (Val.fieldAddr rfl fl26_19 sz3 rfl) ?_
  first
    | refine TF.tk 110 2564743407945638913265281073090279 rfl rfl rfl (Val.load 0 rfl ag3 rfl rfl) ?_
    | refine TF.tk 110 2564743407945638913265281073090279 rfl rfl rfl (Val.load 1 rfl ag3 rfl rfl) ?_
    | refine TF.tk 110 2564743407945638913265281073090279 rfl rfl rfl (Val.load 2 rfl ag3 rfl rfl) ?_
    | refine TF.tk 110 2564743407945638913265281073090279 rfl rfl rfl (Val.load 3 rfl ag3 rfl rfl) ?_
    | refine TF.tk 110 2564743407945638913265281073090279 rfl rfl rfl (Val.load 4 rfl ag3 rfl rfl) ?_
    | refine TF.tk 110 2564743407945638913265281073090279 rfl rfl rfl (Val.load 5 rfl ag3 rfl rfl) ?_
  refine TF.tk 113 12949337125015294170326273731530471 rfl rfl rfl (Val.move rfl) ?_
  refine TF.tk 114 33718524559154604684448259048410855 rfl rfl rfl (Val.fieldAddr rfl fl26_20 sz3 rfl) ?_
  first
    | refine TF.tk 115 75256899427433225712692229682171623 rfl rfl rfl (Val.load 0 rfl ag3 rfl rfl) ?_
    | refine TF.tk 115 75256899427433225712692229682171623 rfl rfl rfl (Val.load 1 rfl ag3 rfl rfl) ?_
    | refine TF.tk 115 75256899427433225712692229682171623 rfl rfl rfl (Val.load 2 rfl ag3 rfl rfl) ?_
    | refine TF.tk 115 75256899427433225712692229682171623 rfl rfl rfl (Val.load 3 rfl ag3 rfl rfl) ?_
    | refine TF.tk 115 75256899427433225712692229682171623 rfl rfl rfl (Val.load 4 rfl ag3 rfl rfl) ?_
    | refine TF.tk 115 75256899427433225712692229682171623 rfl rfl rfl (Val.load 5 rfl ag3 rfl rfl) ?_
  refine TF.tk 118 407563898373662193938643994752257767 rfl rfl rfl (Val.move rfl) ?_
  refine TF.tk 119 1072177896266120130390547524892430055 rfl rfl rfl (Val.fieldAddr rfl fl26_21 sz3 rfl) ?_
  first
    | refine TF.tk 120 2401405892051036003294354585172774631 rfl rfl rfl (Val.load 0 rfl ag3 rfl rfl) ?_
    | refine TF.tk 120 2401405892051036003294354585172774631 rfl rfl rfl (Val.load 1 rfl ag3 rfl rfl) ?_
    | refine TF.tk 120 2401405892051036003294354585172774631 rfl rfl rfl (Val.load 2 rfl ag3 rfl rfl) ?_
    | refine TF.tk 120 2401405892051036003294354585172774631 rfl rfl rfl (Val.load 3 rfl ag3 rfl rfl) ?_
    | refine TF.tk 120 2401405892051036003294354585172774631 rfl rfl rfl (Val.load 4 rfl ag3 rfl rfl) ?_
    | refine TF.tk 120 2401405892051036003294354585172774631 rfl rfl rfl (Val.load 5 rfl ag3 rfl rfl) ?_
  refine TF.one 3 (by kernel_rfl) ?_
  refine TOF.dz 2401405892051036003294354585172774639 (some 14) rfl rfl rfl rfl (Does.callV rfl go117 rfl (clo_fn _ _)) ?_
  rintro _ _ ⟨rfl, rfl⟩
  refine roK ?_
  refine TF.tk 4 2401405892051036003294354585172774655 rfl rfl rfl (Val.buildS (cs := Pt.cs ⟨[110], c.n, 1, 16⟩) pl176 ze176 rfl rfl) ?_
  refine TF.one 8 (by kernel_rfl) ?_
  refine TOF.dz 2401405892051036003294354585172774911 (some 19) rfl rfl rfl rfl (Does.callV rfl go117 rfl (clo_fn _ _)) ?_
  rintro _ _ ⟨rfl, rfl⟩
  refine roK ?_
  refine TF.one 12 (by kernel_rfl) ?_
  refine TOF.dz 2401405892051036003294354585172779007 (some 23) rfl rfl rfl rfl (Does.callV rfl go117 rfl (clo_fn _ _)) ?_
  rintro _ _ ⟨rfl, rfl⟩
  refine roK ?_
  refine TF.tk 13 2401405892051036003294354585172787199 rfl rfl rfl (Val.sub rfl rfl (r := c.n - 1) (w_i64 (by omega) (by omega))) ?_
  refine TF.tk 14 2401405892051036003294354585172803583 rfl rfl rfl (Val.quo rfl rfl (by decide) (r := (c.n - 1).tdiv 3) (w_i64 (by have := quo3 hn; omega) (by have := quo3 hn; omega))) ?_
  refine TF.tk 15 2401405892051036003294354585172836351 rfl rfl rfl (Val.buildS (cs := Pt.cs ⟨[102], c.f, 0, ((c.n - 1).tdiv 3)⟩) pl176 ze176 rfl rfl) ?_
  refine TF.one 19 (by kernel_rfl) ?_
  refine TOF.dz 2401405892051036003294354585173360639 (some 30) rfl rfl rfl rfl (Does.callV rfl go117 rfl (clo_fn _ _)) ?_
  rintro _ _ ⟨rfl, rfl⟩
  refine roK ?_
  refine TF.tk 20 2401405892051036003294354585174409215 rfl rfl rfl (Val.buildS (cs := Pt.cs ⟨[109], c.m, 1, 4⟩) pl176 ze176 rfl rfl) ?_
  refine TF.one 24 (by kernel_rfl) ?_
  refine TOF.dz 2401405892051036003294354585191186431 (some 35) rfl rfl rfl rfl (Does.callV rfl go117 rfl (clo_fn _ _)) ?_
  rintro _ _ ⟨rfl, rfl⟩
  refine roK ?_
  refine TF.one 31 (by kernel_rfl) ?_
  refine TOF.dz 2401405892051036003294354587338670079 (some 42) rfl rfl rfl rfl (Does.callV rfl go117 rfl (clo_fn _ _)) ?_
  rintro _ _ ⟨rfl, rfl⟩
  refine roK ?_
  refine TF.tk 32 2401405892051036003294354591633637375 rfl rfl rfl (Val.buildS (cs := Pt.cs ⟨[113, 117, 111, 114, 117, 109], c.quorum, (2 * c.f + 1), c.n⟩) pl176 ze176 rfl rfl) ?_
  refine TF.one 36 (by kernel_rfl) ?_
  refine TOF.dz 2401405892051036003294354660353114111 (some 47) rfl rfl rfl rfl (Does.callV rfl go117 rfl (clo_fn _ _)) ?_
  rintro _ _ ⟨rfl, rfl⟩
  refine roK ?_
  refine TF.tk 37 2401405892051036003294354797792067583 rfl rfl rfl (Val.buildS (cs := Pt.cs ⟨[102, 114, 101, 115, 104], c.fresh, 1, 8⟩) pl176 ze176 rfl rfl) ?_
  refine TF.one 41 (by kernel_rfl) ?_
  refine TOF.dz 2401405892051036003294356996815323135 (some 52) rfl rfl rfl rfl (Does.callV rfl go117 rfl (clo_fn _ _)) ?_
  rintro _ _ ⟨rfl, rfl⟩
  refine roK ?_
  refine TF.tk 42 2401405892051036003294361394861834239 rfl rfl rfl (Val.buildS (cs := Pt.cs ⟨[103, 114, 97, 99, 101], c.grace, 1, 100⟩) pl176 ze176 rfl rfl) ?_
  refine TF.one 46 (by kernel_rfl) ?_
  refine TOF.dz 2401405892051036003294431763606011903 (some 57) rfl rfl rfl rfl (Does.callV rfl go117 rfl (clo_fn _ _)) ?_
  rintro _ _ ⟨rfl, rfl⟩
  refine roK ?_
  refine TF.tk 47 2401405892051036003294572501094367231 rfl rfl rfl (Val.buildS (cs := Pt.cs ⟨[119, 105, 110, 100, 111, 119], c.window, 1, 64⟩) pl176 ze176 rfl rfl) ?_
  refine TF.one 49 (by kernel_rfl) ?_
  refine TOF.dz 2401405892051036003295135451047788543 (some 60) rfl rfl rfl rfl (Does.callF go118 rfl (targets_fn c _ ht)) ?_
  rintro _ _ ⟨rfl, rfl⟩
  refine roK ?_
  refine TF.tk 50 2401405892051036003296261350954631167 rfl rfl rfl (Val.buildS (cs := Pt.cs ⟨[116, 97, 114, 103, 101, 116], 1, 1, 1⟩) pl176 ze176 rfl rfl) ?_
  refine TF.one 54 (by kernel_rfl) ?_
  refine TOF.dz 2401405892051036003314275749464113151 (some 65) rfl rfl rfl rfl (Does.callV rfl go117 rfl (clo_fn _ _)) ?_
  rintro _ _ ⟨rfl, rfl⟩
  refine roK ?_
  refine TF.tk 55 2401405892051036003350304546483077119 rfl rfl rfl (Val.buildS (cs := Pt.cs ⟨[116, 111, 108], c.tol, 0, 1000⟩) pl176 ze176 rfl rfl) ?_
  refine TF.one 59 (by kernel_rfl) ?_
  refine TOF.dz 2401405892051036003926765298786500607 (some 70) rfl rfl rfl rfl (Does.callV rfl go117 rfl (clo_fn _ _)) ?_
  rintro _ _ ⟨rfl, rfl⟩
  refine roK ?_
  refine TF.tk 60 2401405892051036005079686803393347583 rfl rfl rfl (Val.buildS (cs := Pt.cs ⟨[109, 105, 110], c.min, 1, 10000⟩) pl176 ze176 rfl rfl) ?_
  refine TF.one 64 (by kernel_rfl) ?_
  refine TOF.dz 2401405892051036023526430877102899199 (some 75) rfl rfl rfl rfl (Does.callV rfl go117 rfl (clo_fn _ _)) ?_
  rintro _ _ ⟨rfl, rfl⟩
  refine roK ?_
  refine TF.one 68 (by kernel_rfl) ?_
  refine TOF.dz 2401405892051036318674336056455725055 (some 79) rfl rfl rfl rfl (Does.callV rfl go117 rfl (clo_fn _ _)) ?_
  rintro _ _ ⟨rfl, rfl⟩
  refine roK ?_
  refine TF.tk 69 2401405892051036908970146415161376767 rfl rfl rfl (Val.buildS (cs := Pt.cs ⟨[109, 97, 120], c.max, c.min, 10000⟩) pl176 ze176 rfl rfl) ?_
  refine TF.one 73 (by kernel_rfl) ?_
  refine TOF.dz 2401405892051046353703112154451804159 (some 84) rfl rfl rfl rfl (Does.callV rfl go117 rfl (clo_fn _ _)) ?_
  rintro _ _ ⟨rfl, rfl⟩
  refine roK ?_
  refine TF.tk 74 2401405892051065243169043633032658943 rfl rfl rfl (Val.buildS (cs := Pt.cs ⟨[99, 97, 108, 109, 117, 112], c.calmup, 0, 60⟩) pl176 ze176 rfl rfl) ?_
  refine TF.one 78 (by kernel_rfl) ?_
  refine TOF.dz 2401405892051367474623947290326335487 (some 89) rfl rfl rfl rfl (Does.callV rfl go117 rfl (clo_fn _ _)) ?_
  rintro _ _ ⟨rfl, rfl⟩
  refine roK ?_
  refine TF.tk 79 2401405892051971937533754604913688575 rfl rfl rfl (Val.buildS (cs := Pt.cs ⟨[99, 97, 108, 109, 100, 111, 119, 110], c.calmdown, 0, 60⟩) pl176 ze176 rfl rfl) ?_
  refine TF.one 83 (by kernel_rfl) ?_
  refine TOF.dz 2401405892061643344090671638311337983 (some 94) rfl rfl rfl rfl (Does.callV rfl go117 rfl (clo_fn _ _)) ?_
  rintro _ _ ⟨rfl, rfl⟩
  refine roK ?_
  refine TF.tk 84 2401405892080986157204505705106636799 rfl rfl rfl (Val.buildS (cs := Pt.cs ⟨[112, 111, 100, 115, 117, 112], c.podsup, 1, 1000⟩) pl176 ze176 rfl rfl) ?_
  refine TF.one 88 (by kernel_rfl) ?_
  refine TOF.dz 2401405892390471167025850773831417855 (some 99) rfl rfl rfl rfl (Does.callV rfl go117 rfl (clo_fn _ _)) ?_
  rintro _ _ ⟨rfl, rfl⟩
  refine roK ?_
  refine TF.tk 89 2401405893009441186668540911280979967 rfl rfl rfl (Val.buildS (cs := Pt.cs ⟨[112, 99, 116, 117, 112], c.pctup, 1, 1000⟩) pl176 ze176 rfl rfl) ?_
  refine TF.one 93 (by kernel_rfl) ?_
  refine TOF.dz 2401405902912961500951583110473973759 (some 104) rfl rfl rfl rfl (Does.callV rfl go117 rfl (clo_fn _ _)) ?_
  rintro _ _ ⟨rfl, rfl⟩
  refine roK ?_
  refine TF.tk 94 2401405922720002129517667508859961343 rfl rfl rfl (Val.buildS (cs := Pt.cs ⟨[112, 111, 100, 115, 100, 111, 119, 110], c.podsdown, 1, 1000⟩) pl176 ze176 rfl rfl) ?_
  refine TF.one 98 (by kernel_rfl) ?_
  refine TOF.dz 2401406239632652186575017883035762687 (some 109) rfl rfl rfl rfl (Does.callV rfl go117 rfl (clo_fn _ _)) ?_
  rintro _ _ ⟨rfl, rfl⟩
  refine roK ?_
  refine TF.tk 99 2401406873457952300689718631387365375 rfl rfl rfl (Val.buildS (cs := Pt.cs ⟨[112, 99, 116, 100, 111, 119, 110], c.pctdown, 1, 100⟩) pl176 ze176 rfl rfl) ?_
  refine TF.one 103 (by kernel_rfl) ?_
  refine TOF.dz 2401417014662754126524930605013008383 (some 114) rfl rfl rfl rfl (Does.callV rfl go117 rfl (clo_fn _ _)) ?_
  rintro _ _ ⟨rfl, rfl⟩
  refine roK ?_
  refine TF.tk 104 2401437297072357778195354552264294399 rfl rfl rfl (Val.buildS (cs := Pt.cs ⟨[112, 101, 114, 105, 111, 100], c.period, 1, 60⟩) pl176 ze176 rfl rfl) ?_
  refine TF.one 111 (by kernel_rfl) ?_
  refine TOF.dz 2404033445501625192009619800428904447 (some 122) rfl rfl rfl rfl (Does.callV rfl go117 rfl (clo_fn _ _)) ?_
  rintro _ _ ⟨rfl, rfl⟩
  refine roK ?_
  refine TF.tk 112 2409225742360160019638150296758124543 rfl rfl rfl (Val.buildS (cs := Pt.cs ⟨[115, 116, 114, 105, 107, 101, 115], c.strikes, 1, 100⟩) pl176 ze176 rfl rfl) ?_
  refine TF.one 116 (by kernel_rfl) ?_
  refine TOF.dz 2492302492096717261694638238025646079 (some 127) rfl rfl rfl rfl (Does.callV rfl go117 rfl (clo_fn _ _)) ?_
  rintro _ _ ⟨rfl, rfl⟩
  refine roK ?_
  refine TF.tk 117 2658455991569831745807614120560689151 rfl rfl rfl (Val.buildS (cs := Pt.cs ⟨[112, 114, 111, 98, 101], c.probe, 1, 100⟩) pl176 ze176 rfl rfl) ?_
  refine TF.one 121 (by kernel_rfl) ?_
  refine TOF.dz 5316911983139663491615228241121378303 (some 132) rfl rfl rfl rfl (Does.callV rfl go117 rfl (clo_fn _ _)) ?_
  rintro _ _ ⟨rfl, rfl⟩
  refine roK ?_
  refine TF.tk 122 10633823966279326983230456482242756607 rfl rfl rfl (Val.buildS (cs := Pt.cs ⟨[115, 101, 99, 116, 111, 114, 115], c.sectors, 64, 4096⟩) pl176 ze176 rfl rfl) ?_
  refine TF.one 123 (by kernel_rfl) ?_
  refine TOF.dz 21267647932558653966460912964485513215 (some 134) rfl rfl rfl rfl (Does.buildSlice (cs := (partsL c c.f 1).flatMap Pt.cs) sl173 sz176 ze176 (by decide) (by decide) rfl (evP rfl (evP rfl (evP rfl (evP rfl (evP rfl (evP rfl (evP rfl (evP rfl (evP rfl (evP rfl (evP rfl (evP rfl (evP rfl (evP rfl (evP rfl (evP rfl (evP rfl (evP rfl (evP rfl (evP rfl (evP rfl (evP rfl evP0)))))))))))))))))))))) (fill_all (f := Pt.cs) (sz := 4) (zl := [.string ⟨#[]⟩, .int .i64 0, .int .i64 0, .int .i64 0]) (g := fun p => Value.agg p.cs.toArray) (fun _ => rfl) (fun _ => rfl) rfl (partsL c c.f 1))) ?_
  rintro _ _ ⟨bS, rfl, rfl⟩
  refine roK ?_
  refine TF.tk 124 42535295865117307932921825928971026431 rfl rfl rfl (Val.assign rfl) ?_
  refine TF.done (by kernel_rfl) ?_
  refine AtX.then ?_
  refine TC.env (E' := [(2, _)]) (Sub.cons rfl (Sub.nil _)) ?_
  refine TC.ret1 (fn := Try.f108) (fun _ _ h => h) rfl (RV.tmp rfl) (M' := (bS, row 176 ((partsL c c.f 1).flatMap Pt.cs)) :: M) (fun w h => ro_del 1 rfl w h) ?_
  exact ⟨bS, rfl, rfl⟩

end Go.Proofs.Ytphoapajlcaoeaa
/- walks -/
set_option linter.unusedVariables false
set_option linter.unusedSimpArgs false
set_option maxRecDepth 100000
set_option maxHeartbeats 4000000
namespace Go.Proofs.Ytphoapajlcaoeaa
open Go Go.X
/-- quorumite/conf.Wrong -/
theorem Wrong_ok (c : Cf) (M : Hp) (hc : OkC c) : FnC Try.prog 83 #[.agg #[.int .i64 (c.n), .int .i64 (c.f), .int .i64 (c.m), .int .i64 (c.quorum), .int .i64 (c.fresh), .int .i64 (c.grace), .int .i64 (c.window), .int .i64 (c.t0), .int .i64 (c.t1), .int .i64 (c.t2), .int .i64 (c.t3), .int .i64 (c.tol), .int .i64 (c.min), .int .i64 (c.max), .int .i64 (c.calmup), .int .i64 (c.calmdown), .int .i64 (c.podsup), .int .i64 (c.pctup), .int .i64 (c.podsdown), .int .i64 (c.pctdown), .int .i64 (c.period), .int .i64 (c.far), .int .i64 (c.strikes), .int .i64 (c.probe), .int .i64 (c.sectors), .int .u64 (c.seed)]] M (fun v M' => v = .string (ofL []) ∧ M = M') := by
  have hn : 0 ≤ c.n ∧ c.n ≤ 1000 := by have := hc.n; omega
  have hf : 0 ≤ c.f ∧ c.f ≤ 16 := by have := hc.n; have := hc.f; omega
  have ht := tg_ok hc
  refine FnC.intro Try.func83 rfl 27 rfl (by simp) (fun z => ?_)
  refine TC.env (E' := [(0, _)]) (Sub.cons rfl (Sub.nil _)) ?_
  refine TC.seq ?_
  refine TC.region ?_
  refine TL.does (some 1) rfl rfl rfl (Does.box rfl rfl) ?_
  rintro _ _ ⟨b1, rfl, rfl⟩
  refine TL.val rfl rfl (Nat.le_of_ble_eq_true rfl) (Val.assign rfl) ?_
  refine TL.nil ?_
  refine AtX.then ?_
  refine TC.env (E' := [(1, _), (2, _)]) (Sub.cons rfl (Sub.cons rfl (Sub.nil _))) ?_
  refine TC.seq ?_
  refine TC.seq ?_
  refine TC.region ?_
  first
    | refine TL.val rfl rfl (Nat.le_of_ble_eq_true rfl) (Val.loadAgg 0 rfl ag26 sz26 rfl rfl rfl) ?_
    | refine TL.val rfl rfl (Nat.le_of_ble_eq_true rfl) (Val.loadAgg 1 rfl ag26 sz26 rfl rfl rfl) ?_
    | refine TL.val rfl rfl (Nat.le_of_ble_eq_true rfl) (Val.loadAgg 2 rfl ag26 sz26 rfl rfl rfl) ?_
    | refine TL.val rfl rfl (Nat.le_of_ble_eq_true rfl) (Val.loadAgg 3 rfl ag26 sz26 rfl rfl rfl) ?_
    | refine TL.val rfl rfl (Nat.le_of_ble_eq_true rfl) (Val.loadAgg 4 rfl ag26 sz26 rfl rfl rfl) ?_
    | refine TL.val rfl rfl (Nat.le_of_ble_eq_true rfl) (Val.loadAgg 5 rfl ag26 sz26 rfl rfl rfl) ?_
  refine TL.does (some 6) rfl rfl rfl (Does.callF go108 rfl (parts_fn c _ hn hf ht)) ?_
  rintro _ _ ⟨bS, rfl, rfl⟩
  refine TL.val rfl rfl (Nat.le_of_ble_eq_true rfl) (Val.lenSl rfl rfl sl173) ?_
  refine TL.val rfl rfl (Nat.le_of_ble_eq_true rfl) (Val.move rfl) ?_
  refine TL.nil ?_
  refine AtX.then ?_
  refine TC.env (E' := [(2, _), (6, _), (7, _), (8, _)]) (Sub.cons rfl (Sub.cons rfl (Sub.cons rfl (Sub.cons rfl (Sub.nil _))))) ?_
  refine TC.block ?_
  refine TC.loop (ι := Nat) (fun k => [(6, .slice (some ⟨bS, 0, none⟩) 22 22), (7, .int .i64 22), (8, .int .i64 (k : Nat))]) (fun _ => ((bS, row 176 ((partsL c c.f 1).flatMap Pt.cs)) :: ((b1, .cells #[.int .i64 (c.n), .int .i64 (c.f), .int .i64 (c.m), .int .i64 (c.quorum), .int .i64 (c.fresh), .int .i64 (c.grace), .int .i64 (c.window), .int .i64 (c.t0), .int .i64 (c.t1), .int .i64 (c.t2), .int .i64 (c.t3), .int .i64 (c.tol), .int .i64 (c.min), .int .i64 (c.max), .int .i64 (c.calmup), .int .i64 (c.calmdown), .int .i64 (c.podsup), .int .i64 (c.pctup), .int .i64 (c.podsdown), .int .i64 (c.pctdown), .int .i64 (c.period), .int .i64 (c.far), .int .i64 (c.strikes), .int .i64 (c.probe), .int .i64 (c.sectors), .int .u64 (c.seed)] 26 (0, 0)) :: M))) (fun k => k ≤ 22) (fun k => 22 - k) 0 ?_ (Sub.cons rfl (Sub.cons rfl (Sub.cons rfl (Sub.nil _)))) (fun _ h => h) ?_
  · first | exact Nat.zero_le _ | rfl
  intro k hk
  refine TC.seq ?_
  refine TC.region ?_
  refine TL.val rfl rfl (Nat.le_of_ble_eq_true rfl) (Val.lss rfl rfl) ?_
  refine TL.nil ?_
  refine AtX.then ?_
  refine TC.seq ?_
  first | refine TC.condP rfl (fun c1 => ?_) (fun c1 => ?_) | refine TC.condN rfl (fun c1 => ?_) (fun c1 => ?_) | refine TC.condB rfl (fun c1 => ?_) (fun c1 => ?_) | refine TC.cond rfl (fun c1 => ?_) (fun c1 => ?_)
  · skip
    refine TC.skip ?_
    refine AtX.then ?_
    refine TC.seq ?_
    refine TC.block ?_
    refine TC.seq ?_
    have hlt : k < 22 := by omega
    obtain ⟨p, hp⟩ : ∃ p, (partsL c c.f 1)[k]? = some p := ⟨_, List.getElem?_eq_getElem (by rw [parts_len]; exact hlt)⟩
    have hR : Rd (((bS, row 176 ((partsL c c.f 1).flatMap Pt.cs)) :: ((b1, .cells #[.int .i64 (c.n), .int .i64 (c.f), .int .i64 (c.m), .int .i64 (c.quorum), .int .i64 (c.fresh), .int .i64 (c.grace), .int .i64 (c.window), .int .i64 (c.t0), .int .i64 (c.t1), .int .i64 (c.t2), .int .i64 (c.t3), .int .i64 (c.tol), .int .i64 (c.min), .int .i64 (c.max), .int .i64 (c.calmup), .int .i64 (c.calmdown), .int .i64 (c.podsup), .int .i64 (c.pctup), .int .i64 (c.podsdown), .int .i64 (c.pctdown), .int .i64 (c.period), .int .i64 (c.far), .int .i64 (c.strikes), .int .i64 (c.probe), .int .i64 (c.sectors), .int .u64 (c.seed)] 26 (0, 0)) :: M))) ⟨bS, 0, none⟩ ((partsL c c.f 1).flatMap Pt.cs) := Rd.get (i := 0) rfl (by rw [List.drop_zero, List.take_of_length_le (Nat.le_refl _)])
    refine TC.region ?_
    refine TL.val rfl rfl (Nat.le_of_ble_eq_true rfl) (Val.indexAddr (i := k) (r := 4 * k) rfl rfl sl173 sz176 rfl (by omega) (by omega)) ?_
    refine TL.val rfl rfl (Nat.le_of_ble_eq_true rfl) (Val.loadAggR (o := 0) (j := 4 * k) (vs := p.cs) rfl ag176 sz176 hR (by omega) (flat_seg Pt.cs_len hp) rfl) ?_
    refine TL.does (some 4) rfl rfl rfl (Does.alloc ze176 rfl) ?_
    rintro _ _ ⟨b3, rfl, rfl⟩
    first
      | refine TL.does none rfl rfl rfl (Does.store (i := 0) rfl rfl rfl sz176 rfl rfl (by first | exact Nat.le_of_ble_eq_true rfl | decide | omega) rfl rfl) ?_
      | refine TL.does none rfl rfl rfl (Does.store (i := 1) rfl rfl rfl sz176 rfl rfl (by first | exact Nat.le_of_ble_eq_true rfl | decide | omega) rfl rfl) ?_
      | refine TL.does none rfl rfl rfl (Does.store (i := 2) rfl rfl rfl sz176 rfl rfl (by first | exact Nat.le_of_ble_eq_true rfl | decide | omega) rfl rfl) ?_
      | refine TL.does none rfl rfl rfl (Does.store (i := 3) rfl rfl rfl sz176 rfl rfl (by first | exact Nat.le_of_ble_eq_true rfl | decide | omega) rfl rfl) ?_
      | refine TL.does none rfl rfl rfl (Does.store (i := 4) rfl rfl rfl sz176 rfl rfl (by first | exact Nat.le_of_ble_eq_true rfl | decide | omega) rfl rfl) ?_
      | refine TL.does none rfl rfl rfl (Does.store (i := 5) rfl rfl rfl sz176 rfl rfl (by first | exact Nat.le_of_ble_eq_true rfl | decide | omega) rfl rfl) ?_
    rintro _ _ ⟨rfl, rfl⟩
    refine TL.nil ?_
    refine AtX.then ?_
    refine TC.seq ?_
    have hpp := parts_get hc hp
    refine TC.region ?_
    refine TL.val rfl rfl (Nat.le_of_ble_eq_true rfl) (Val.fieldAddr rfl fl176_1 sz2 rfl) ?_
    first
      | refine TL.val rfl rfl (Nat.le_of_ble_eq_true rfl) (Val.load 0 rfl ag2 rfl rfl) ?_
      | refine TL.val rfl rfl (Nat.le_of_ble_eq_true rfl) (Val.load 1 rfl ag2 rfl rfl) ?_
      | refine TL.val rfl rfl (Nat.le_of_ble_eq_true rfl) (Val.load 2 rfl ag2 rfl rfl) ?_
      | refine TL.val rfl rfl (Nat.le_of_ble_eq_true rfl) (Val.load 3 rfl ag2 rfl rfl) ?_
      | refine TL.val rfl rfl (Nat.le_of_ble_eq_true rfl) (Val.load 4 rfl ag2 rfl rfl) ?_
      | refine TL.val rfl rfl (Nat.le_of_ble_eq_true rfl) (Val.load 5 rfl ag2 rfl rfl) ?_
    refine TL.val rfl rfl (Nat.le_of_ble_eq_true rfl) (Val.fieldAddr rfl fl176_2 sz2 rfl) ?_
    first
      | refine TL.val rfl rfl (Nat.le_of_ble_eq_true rfl) (Val.load 0 rfl ag2 rfl rfl) ?_
      | refine TL.val rfl rfl (Nat.le_of_ble_eq_true rfl) (Val.load 1 rfl ag2 rfl rfl) ?_
      | refine TL.val rfl rfl (Nat.le_of_ble_eq_true rfl) (Val.load 2 rfl ag2 rfl rfl) ?_
      | refine TL.val rfl rfl (Nat.le_of_ble_eq_true rfl) (Val.load 3 rfl ag2 rfl rfl) ?_
      | refine TL.val rfl rfl (Nat.le_of_ble_eq_true rfl) (Val.load 4 rfl ag2 rfl rfl) ?_
      | refine TL.val rfl rfl (Nat.le_of_ble_eq_true rfl) (Val.load 5 rfl ag2 rfl rfl) ?_
    refine TL.val rfl rfl (Nat.le_of_ble_eq_true rfl) (Val.lss rfl rfl) ?_
    refine TL.val rfl rfl (Nat.le_of_ble_eq_true rfl) (Val.move rfl) ?_
    refine TL.gen (fun g4 hg4 => ?_)
    refine TL.gval rfl rfl (Nat.le_of_ble_eq_true rfl) rfl (Nat.le_of_ble_eq_true rfl) rfl (fun hg => by subst hg; exact (Val.fieldAddr rfl fl176_1 sz2 rfl)) ?_
    first
      | refine TL.gval rfl rfl (Nat.le_of_ble_eq_true rfl) rfl (Nat.le_of_ble_eq_true rfl) rfl (fun hg => by subst hg; exact (Val.load 0 rfl ag2 rfl rfl)) ?_
      | refine TL.gval rfl rfl (Nat.le_of_ble_eq_true rfl) rfl (Nat.le_of_ble_eq_true rfl) rfl (fun hg => by subst hg; exact (Val.load 1 rfl ag2 rfl rfl)) ?_
      | refine TL.gval rfl rfl (Nat.le_of_ble_eq_true rfl) rfl (Nat.le_of_ble_eq_true rfl) rfl (fun hg => by subst hg; exact (Val.load 2 rfl ag2 rfl rfl)) ?_
      | refine TL.gval rfl rfl (Nat.le_of_ble_eq_true rfl) rfl (Nat.le_of_ble_eq_true rfl) rfl (fun hg => by subst hg; exact (Val.load 3 rfl ag2 rfl rfl)) ?_
      | refine TL.gval rfl rfl (Nat.le_of_ble_eq_true rfl) rfl (Nat.le_of_ble_eq_true rfl) rfl (fun hg => by subst hg; exact (Val.load 4 rfl ag2 rfl rfl)) ?_
      | refine TL.gval rfl rfl (Nat.le_of_ble_eq_true rfl) rfl (Nat.le_of_ble_eq_true rfl) rfl (fun hg => by subst hg; exact (Val.load 5 rfl ag2 rfl rfl)) ?_
    refine TL.gval rfl rfl (Nat.le_of_ble_eq_true rfl) rfl (Nat.le_of_ble_eq_true rfl) rfl (fun hg => by subst hg; exact (Val.fieldAddr rfl fl176_3 sz2 rfl)) ?_
    first
      | refine TL.gval rfl rfl (Nat.le_of_ble_eq_true rfl) rfl (Nat.le_of_ble_eq_true rfl) rfl (fun hg => by subst hg; exact (Val.load 0 rfl ag2 rfl rfl)) ?_
      | refine TL.gval rfl rfl (Nat.le_of_ble_eq_true rfl) rfl (Nat.le_of_ble_eq_true rfl) rfl (fun hg => by subst hg; exact (Val.load 1 rfl ag2 rfl rfl)) ?_
      | refine TL.gval rfl rfl (Nat.le_of_ble_eq_true rfl) rfl (Nat.le_of_ble_eq_true rfl) rfl (fun hg => by subst hg; exact (Val.load 2 rfl ag2 rfl rfl)) ?_
      | refine TL.gval rfl rfl (Nat.le_of_ble_eq_true rfl) rfl (Nat.le_of_ble_eq_true rfl) rfl (fun hg => by subst hg; exact (Val.load 3 rfl ag2 rfl rfl)) ?_
      | refine TL.gval rfl rfl (Nat.le_of_ble_eq_true rfl) rfl (Nat.le_of_ble_eq_true rfl) rfl (fun hg => by subst hg; exact (Val.load 4 rfl ag2 rfl rfl)) ?_
      | refine TL.gval rfl rfl (Nat.le_of_ble_eq_true rfl) rfl (Nat.le_of_ble_eq_true rfl) rfl (fun hg => by subst hg; exact (Val.load 5 rfl ag2 rfl rfl)) ?_
    refine TL.gval rfl rfl (Nat.le_of_ble_eq_true rfl) rfl (Nat.le_of_ble_eq_true rfl) rfl (fun hg => by subst hg; exact (Val.gtr rfl rfl)) ?_
    first
      | refine TL.val rfl rfl (Nat.le_of_ble_eq_true rfl) (Val.pickAnd rfl rfl rfl) ?_
      | refine TL.val rfl rfl (Nat.le_of_ble_eq_true rfl) (Val.pickOr rfl rfl rfl) ?_
      | refine TL.val rfl rfl (Nat.le_of_ble_eq_true rfl) (Val.pick rfl rfl rfl) ?_
    refine TL.nil ?_
    refine AtX.then ?_
    first | refine TC.condP rfl (fun c2 => ?_) (fun c2 => ?_) | refine TC.condN rfl (fun c2 => ?_) (fun c2 => ?_) | refine TC.condB rfl (fun c2 => ?_) (fun c2 => ?_) | refine TC.cond rfl (fun c2 => ?_) (fun c2 => ?_)
    · skip
      (exfalso; grind)
    · skip
      refine TC.skip ?_
      refine AtX.blk ?_
      refine AtX.then ?_
      refine TC.region ?_
      first
        | refine TL.val rfl rfl (Nat.le_of_ble_eq_true rfl) (Val.add rfl rfl (w_i64 (by omega) (by omega))) ?_
        | refine TL.val rfl rfl (Nat.le_of_ble_eq_true rfl) (Val.add rfl rfl rfl) ?_
      refine TL.val rfl rfl (Nat.le_of_ble_eq_true rfl) (Val.move rfl) ?_
      refine TL.nil ?_
      refine AtX.round (k + 1) ?_ ?_ (Sub.cons rfl (Sub.cons rfl (Sub.cons rfl (Sub.nil _)))) (by repeat (first | exact ro_refl | exact ro_pre | refine ro_tail ?_ | refine ro_app ?_))
      · omega
      · omega
  · skip
    refine TC.exit ?_
    refine AtX.seqX ?_
    refine AtX.seqX ?_
    refine AtX.hit ?_
    refine AtX.then ?_
    refine TC.env (E' := []) (Sub.nil _) ?_
    refine TC.seq ?_
    refine TC.region ?_
    refine TL.val rfl rfl (Nat.le_of_ble_eq_true rfl) (Val.assign rfl) ?_
    refine TL.nil ?_
    refine AtX.then ?_
    refine TC.env (E' := [(2, _)]) (Sub.cons rfl (Sub.nil _)) ?_
    refine TC.ret1 (fn := Try.f83) (fun _ _ h => h) rfl (RV.tmp rfl) (M' := M) (by repeat (first | exact ro_refl | exact ro_pre | refine ro_tail ?_ | refine ro_app ?_)) ?_
    exact ⟨rfl, rfl⟩

/-- quorumite/conf.Wrong -/
theorem Wrong_n (c : Cf) (M : Hp) (hn : 0 ≤ c.n ∧ c.n ≤ 1000) (hf : 0 ≤ c.f ∧ c.f ≤ 16) (ht : tg c) (h1 : c.n < 1) : FnC Try.prog 83 #[.agg #[.int .i64 (c.n), .int .i64 (c.f), .int .i64 (c.m), .int .i64 (c.quorum), .int .i64 (c.fresh), .int .i64 (c.grace), .int .i64 (c.window), .int .i64 (c.t0), .int .i64 (c.t1), .int .i64 (c.t2), .int .i64 (c.t3), .int .i64 (c.tol), .int .i64 (c.min), .int .i64 (c.max), .int .i64 (c.calmup), .int .i64 (c.calmdown), .int .i64 (c.podsup), .int .i64 (c.pctup), .int .i64 (c.podsdown), .int .i64 (c.pctdown), .int .i64 (c.period), .int .i64 (c.far), .int .i64 (c.strikes), .int .i64 (c.probe), .int .i64 (c.sectors), .int .u64 (c.seed)]] M (fun v M' => v = .string (ofL [110]) ∧ M = M') := by
  refine FnC.intro Try.func83 rfl 27 rfl (by simp) (fun z => ?_)
  refine TC.env (E' := [(0, _)]) (Sub.cons rfl (Sub.nil _)) ?_
  refine TC.seq ?_
  refine TC.region ?_
  refine TL.does (some 1) rfl rfl rfl (Does.box rfl rfl) ?_
  rintro _ _ ⟨b1, rfl, rfl⟩
  refine TL.val rfl rfl (Nat.le_of_ble_eq_true rfl) (Val.assign rfl) ?_
  refine TL.nil ?_
  refine AtX.then ?_
  refine TC.env (E' := [(1, _), (2, _)]) (Sub.cons rfl (Sub.cons rfl (Sub.nil _))) ?_
  refine TC.seq ?_
  refine TC.seq ?_
  refine TC.region ?_
  first
    | refine TL.val rfl rfl (Nat.le_of_ble_eq_true rfl) (Val.loadAgg 0 rfl ag26 sz26 rfl rfl rfl) ?_
    | refine TL.val rfl rfl (Nat.le_of_ble_eq_true rfl) (Val.loadAgg 1 rfl ag26 sz26 rfl rfl rfl) ?_
    | refine TL.val rfl rfl (Nat.le_of_ble_eq_true rfl) (Val.loadAgg 2 rfl ag26 sz26 rfl rfl rfl) ?_
    | refine TL.val rfl rfl (Nat.le_of_ble_eq_true rfl) (Val.loadAgg 3 rfl ag26 sz26 rfl rfl rfl) ?_
    | refine TL.val rfl rfl (Nat.le_of_ble_eq_true rfl) (Val.loadAgg 4 rfl ag26 sz26 rfl rfl rfl) ?_
    | refine TL.val rfl rfl (Nat.le_of_ble_eq_true rfl) (Val.loadAgg 5 rfl ag26 sz26 rfl rfl rfl) ?_
  refine TL.does (some 6) rfl rfl rfl (Does.callF go108 rfl (parts_fn c _ hn hf ht)) ?_
  rintro _ _ ⟨bS, rfl, rfl⟩
  refine TL.val rfl rfl (Nat.le_of_ble_eq_true rfl) (Val.lenSl rfl rfl sl173) ?_
  refine TL.val rfl rfl (Nat.le_of_ble_eq_true rfl) (Val.move rfl) ?_
  refine TL.nil ?_
  refine AtX.then ?_
  refine TC.env (E' := [(2, _), (6, _), (7, _), (8, _)]) (Sub.cons rfl (Sub.cons rfl (Sub.cons rfl (Sub.cons rfl (Sub.nil _))))) ?_
  refine TC.block ?_
  refine TC.loop (ι := Nat) (fun k => [(6, .slice (some ⟨bS, 0, none⟩) 22 22), (7, .int .i64 22), (8, .int .i64 (k : Nat))]) (fun _ => ((bS, row 176 ((partsL c c.f 1).flatMap Pt.cs)) :: ((b1, .cells #[.int .i64 (c.n), .int .i64 (c.f), .int .i64 (c.m), .int .i64 (c.quorum), .int .i64 (c.fresh), .int .i64 (c.grace), .int .i64 (c.window), .int .i64 (c.t0), .int .i64 (c.t1), .int .i64 (c.t2), .int .i64 (c.t3), .int .i64 (c.tol), .int .i64 (c.min), .int .i64 (c.max), .int .i64 (c.calmup), .int .i64 (c.calmdown), .int .i64 (c.podsup), .int .i64 (c.pctup), .int .i64 (c.podsdown), .int .i64 (c.pctdown), .int .i64 (c.period), .int .i64 (c.far), .int .i64 (c.strikes), .int .i64 (c.probe), .int .i64 (c.sectors), .int .u64 (c.seed)] 26 (0, 0)) :: M))) (fun k => k = 0) (fun k => 22 - k) 0 ?_ (Sub.cons rfl (Sub.cons rfl (Sub.cons rfl (Sub.nil _)))) (fun _ h => h) ?_
  · first | exact Nat.zero_le _ | rfl
  intro k hk
  refine TC.seq ?_
  refine TC.region ?_
  refine TL.val rfl rfl (Nat.le_of_ble_eq_true rfl) (Val.lss rfl rfl) ?_
  refine TL.nil ?_
  refine AtX.then ?_
  refine TC.seq ?_
  first | refine TC.condP rfl (fun c1 => ?_) (fun c1 => ?_) | refine TC.condN rfl (fun c1 => ?_) (fun c1 => ?_) | refine TC.condB rfl (fun c1 => ?_) (fun c1 => ?_) | refine TC.cond rfl (fun c1 => ?_) (fun c1 => ?_)
  · skip
    refine TC.skip ?_
    refine AtX.then ?_
    refine TC.seq ?_
    refine TC.block ?_
    refine TC.seq ?_
    have hlt : k < 22 := by omega
    obtain ⟨p, hp⟩ : ∃ p, (partsL c c.f 1)[k]? = some p := ⟨_, List.getElem?_eq_getElem (by rw [parts_len]; exact hlt)⟩
    have hR : Rd (((bS, row 176 ((partsL c c.f 1).flatMap Pt.cs)) :: ((b1, .cells #[.int .i64 (c.n), .int .i64 (c.f), .int .i64 (c.m), .int .i64 (c.quorum), .int .i64 (c.fresh), .int .i64 (c.grace), .int .i64 (c.window), .int .i64 (c.t0), .int .i64 (c.t1), .int .i64 (c.t2), .int .i64 (c.t3), .int .i64 (c.tol), .int .i64 (c.min), .int .i64 (c.max), .int .i64 (c.calmup), .int .i64 (c.calmdown), .int .i64 (c.podsup), .int .i64 (c.pctup), .int .i64 (c.podsdown), .int .i64 (c.pctdown), .int .i64 (c.period), .int .i64 (c.far), .int .i64 (c.strikes), .int .i64 (c.probe), .int .i64 (c.sectors), .int .u64 (c.seed)] 26 (0, 0)) :: M))) ⟨bS, 0, none⟩ ((partsL c c.f 1).flatMap Pt.cs) := Rd.get (i := 0) rfl (by rw [List.drop_zero, List.take_of_length_le (Nat.le_refl _)])
    refine TC.region ?_
    refine TL.val rfl rfl (Nat.le_of_ble_eq_true rfl) (Val.indexAddr (i := k) (r := 4 * k) rfl rfl sl173 sz176 rfl (by omega) (by omega)) ?_
    refine TL.val rfl rfl (Nat.le_of_ble_eq_true rfl) (Val.loadAggR (o := 0) (j := 4 * k) (vs := p.cs) rfl ag176 sz176 hR (by omega) (flat_seg Pt.cs_len hp) rfl) ?_
    refine TL.does (some 4) rfl rfl rfl (Does.alloc ze176 rfl) ?_
    rintro _ _ ⟨b3, rfl, rfl⟩
    first
      | refine TL.does none rfl rfl rfl (Does.store (i := 0) rfl rfl rfl sz176 rfl rfl (by first | exact Nat.le_of_ble_eq_true rfl | decide | omega) rfl rfl) ?_
      | refine TL.does none rfl rfl rfl (Does.store (i := 1) rfl rfl rfl sz176 rfl rfl (by first | exact Nat.le_of_ble_eq_true rfl | decide | omega) rfl rfl) ?_
      | refine TL.does none rfl rfl rfl (Does.store (i := 2) rfl rfl rfl sz176 rfl rfl (by first | exact Nat.le_of_ble_eq_true rfl | decide | omega) rfl rfl) ?_
      | refine TL.does none rfl rfl rfl (Does.store (i := 3) rfl rfl rfl sz176 rfl rfl (by first | exact Nat.le_of_ble_eq_true rfl | decide | omega) rfl rfl) ?_
      | refine TL.does none rfl rfl rfl (Does.store (i := 4) rfl rfl rfl sz176 rfl rfl (by first | exact Nat.le_of_ble_eq_true rfl | decide | omega) rfl rfl) ?_
      | refine TL.does none rfl rfl rfl (Does.store (i := 5) rfl rfl rfl sz176 rfl rfl (by first | exact Nat.le_of_ble_eq_true rfl | decide | omega) rfl rfl) ?_
    rintro _ _ ⟨rfl, rfl⟩
    refine TL.nil ?_
    refine AtX.then ?_
    refine TC.seq ?_
    subst hk
    have hpe : p = ⟨[110], c.n, 1, 16⟩ := by simpa [partsL] using hp.symm
    subst hpe
    refine TC.region ?_
    refine TL.val rfl rfl (Nat.le_of_ble_eq_true rfl) (Val.fieldAddr rfl fl176_1 sz2 rfl) ?_
    first
      | refine TL.val rfl rfl (Nat.le_of_ble_eq_true rfl) (Val.load 0 rfl ag2 rfl rfl) ?_
      | refine TL.val rfl rfl (Nat.le_of_ble_eq_true rfl) (Val.load 1 rfl ag2 rfl rfl) ?_
      | refine TL.val rfl rfl (Nat.le_of_ble_eq_true rfl) (Val.load 2 rfl ag2 rfl rfl) ?_
      | refine TL.val rfl rfl (Nat.le_of_ble_eq_true rfl) (Val.load 3 rfl ag2 rfl rfl) ?_
      | refine TL.val rfl rfl (Nat.le_of_ble_eq_true rfl) (Val.load 4 rfl ag2 rfl rfl) ?_
      | refine TL.val rfl rfl (Nat.le_of_ble_eq_true rfl) (Val.load 5 rfl ag2 rfl rfl) ?_
    refine TL.val rfl rfl (Nat.le_of_ble_eq_true rfl) (Val.fieldAddr rfl fl176_2 sz2 rfl) ?_
    first
      | refine TL.val rfl rfl (Nat.le_of_ble_eq_true rfl) (Val.load 0 rfl ag2 rfl rfl) ?_
      | refine TL.val rfl rfl (Nat.le_of_ble_eq_true rfl) (Val.load 1 rfl ag2 rfl rfl) ?_
      | refine TL.val rfl rfl (Nat.le_of_ble_eq_true rfl) (Val.load 2 rfl ag2 rfl rfl) ?_
      | refine TL.val rfl rfl (Nat.le_of_ble_eq_true rfl) (Val.load 3 rfl ag2 rfl rfl) ?_
      | refine TL.val rfl rfl (Nat.le_of_ble_eq_true rfl) (Val.load 4 rfl ag2 rfl rfl) ?_
      | refine TL.val rfl rfl (Nat.le_of_ble_eq_true rfl) (Val.load 5 rfl ag2 rfl rfl) ?_
    refine TL.val rfl rfl (Nat.le_of_ble_eq_true rfl) (Val.lss rfl rfl) ?_
    refine TL.val rfl rfl (Nat.le_of_ble_eq_true rfl) (Val.move rfl) ?_
    refine TL.gen (fun g4 hg4 => ?_)
    refine TL.gval rfl rfl (Nat.le_of_ble_eq_true rfl) rfl (Nat.le_of_ble_eq_true rfl) rfl (fun hg => by subst hg; exact (Val.fieldAddr rfl fl176_1 sz2 rfl)) ?_
    first
      | refine TL.gval rfl rfl (Nat.le_of_ble_eq_true rfl) rfl (Nat.le_of_ble_eq_true rfl) rfl (fun hg => by subst hg; exact (Val.load 0 rfl ag2 rfl rfl)) ?_
      | refine TL.gval rfl rfl (Nat.le_of_ble_eq_true rfl) rfl (Nat.le_of_ble_eq_true rfl) rfl (fun hg => by subst hg; exact (Val.load 1 rfl ag2 rfl rfl)) ?_
      | refine TL.gval rfl rfl (Nat.le_of_ble_eq_true rfl) rfl (Nat.le_of_ble_eq_true rfl) rfl (fun hg => by subst hg; exact (Val.load 2 rfl ag2 rfl rfl)) ?_
      | refine TL.gval rfl rfl (Nat.le_of_ble_eq_true rfl) rfl (Nat.le_of_ble_eq_true rfl) rfl (fun hg => by subst hg; exact (Val.load 3 rfl ag2 rfl rfl)) ?_
      | refine TL.gval rfl rfl (Nat.le_of_ble_eq_true rfl) rfl (Nat.le_of_ble_eq_true rfl) rfl (fun hg => by subst hg; exact (Val.load 4 rfl ag2 rfl rfl)) ?_
      | refine TL.gval rfl rfl (Nat.le_of_ble_eq_true rfl) rfl (Nat.le_of_ble_eq_true rfl) rfl (fun hg => by subst hg; exact (Val.load 5 rfl ag2 rfl rfl)) ?_
    refine TL.gval rfl rfl (Nat.le_of_ble_eq_true rfl) rfl (Nat.le_of_ble_eq_true rfl) rfl (fun hg => by subst hg; exact (Val.fieldAddr rfl fl176_3 sz2 rfl)) ?_
    first
      | refine TL.gval rfl rfl (Nat.le_of_ble_eq_true rfl) rfl (Nat.le_of_ble_eq_true rfl) rfl (fun hg => by subst hg; exact (Val.load 0 rfl ag2 rfl rfl)) ?_
      | refine TL.gval rfl rfl (Nat.le_of_ble_eq_true rfl) rfl (Nat.le_of_ble_eq_true rfl) rfl (fun hg => by subst hg; exact (Val.load 1 rfl ag2 rfl rfl)) ?_
      | refine TL.gval rfl rfl (Nat.le_of_ble_eq_true rfl) rfl (Nat.le_of_ble_eq_true rfl) rfl (fun hg => by subst hg; exact (Val.load 2 rfl ag2 rfl rfl)) ?_
      | refine TL.gval rfl rfl (Nat.le_of_ble_eq_true rfl) rfl (Nat.le_of_ble_eq_true rfl) rfl (fun hg => by subst hg; exact (Val.load 3 rfl ag2 rfl rfl)) ?_
      | refine TL.gval rfl rfl (Nat.le_of_ble_eq_true rfl) rfl (Nat.le_of_ble_eq_true rfl) rfl (fun hg => by subst hg; exact (Val.load 4 rfl ag2 rfl rfl)) ?_
      | refine TL.gval rfl rfl (Nat.le_of_ble_eq_true rfl) rfl (Nat.le_of_ble_eq_true rfl) rfl (fun hg => by subst hg; exact (Val.load 5 rfl ag2 rfl rfl)) ?_
    refine TL.gval rfl rfl (Nat.le_of_ble_eq_true rfl) rfl (Nat.le_of_ble_eq_true rfl) rfl (fun hg => by subst hg; exact (Val.gtr rfl rfl)) ?_
    first
      | refine TL.val rfl rfl (Nat.le_of_ble_eq_true rfl) (Val.pickAnd rfl rfl rfl) ?_
      | refine TL.val rfl rfl (Nat.le_of_ble_eq_true rfl) (Val.pickOr rfl rfl rfl) ?_
      | refine TL.val rfl rfl (Nat.le_of_ble_eq_true rfl) (Val.pick rfl rfl rfl) ?_
    refine TL.nil ?_
    refine AtX.then ?_
    first | refine TC.condP rfl (fun c2 => ?_) (fun c2 => ?_) | refine TC.condN rfl (fun c2 => ?_) (fun c2 => ?_) | refine TC.condB rfl (fun c2 => ?_) (fun c2 => ?_) | refine TC.cond rfl (fun c2 => ?_) (fun c2 => ?_)
    · skip
      refine TC.seq ?_
      refine TC.region ?_
      refine TL.val rfl rfl (Nat.le_of_ble_eq_true rfl) (Val.fieldAddr rfl fl176_0 sz9 rfl) ?_
      first
        | refine TL.val rfl rfl (Nat.le_of_ble_eq_true rfl) (Val.load 0 rfl ag9 rfl rfl) ?_
        | refine TL.val rfl rfl (Nat.le_of_ble_eq_true rfl) (Val.load 1 rfl ag9 rfl rfl) ?_
        | refine TL.val rfl rfl (Nat.le_of_ble_eq_true rfl) (Val.load 2 rfl ag9 rfl rfl) ?_
        | refine TL.val rfl rfl (Nat.le_of_ble_eq_true rfl) (Val.load 3 rfl ag9 rfl rfl) ?_
        | refine TL.val rfl rfl (Nat.le_of_ble_eq_true rfl) (Val.load 4 rfl ag9 rfl rfl) ?_
        | refine TL.val rfl rfl (Nat.le_of_ble_eq_true rfl) (Val.load 5 rfl ag9 rfl rfl) ?_
      refine TL.val rfl rfl (Nat.le_of_ble_eq_true rfl) (Val.assign rfl) ?_
      refine TL.nil ?_
      refine AtX.then ?_
      refine TC.ret1 (fn := Try.f83) (fun _ _ h => h) rfl (RV.tmp rfl) (M' := M) (by repeat (first | exact ro_refl | exact ro_pre | refine ro_tail ?_ | refine ro_app ?_)) ?_
      exact ⟨rfl, rfl⟩
    · skip
      (exfalso; grind)
  · skip
    (exfalso; omega)

/-- quorumite/conf.May -/
theorem cMay_ok (c : Cf) (M : Hp) (hc : OkC c) : FnC Try.prog 44 #[.agg #[.int .i64 (c.n), .int .i64 (c.f), .int .i64 (c.m), .int .i64 (c.quorum), .int .i64 (c.fresh), .int .i64 (c.grace), .int .i64 (c.window), .int .i64 (c.t0), .int .i64 (c.t1), .int .i64 (c.t2), .int .i64 (c.t3), .int .i64 (c.tol), .int .i64 (c.min), .int .i64 (c.max), .int .i64 (c.calmup), .int .i64 (c.calmdown), .int .i64 (c.podsup), .int .i64 (c.pctup), .int .i64 (c.podsdown), .int .i64 (c.pctdown), .int .i64 (c.period), .int .i64 (c.far), .int .i64 (c.strikes), .int .i64 (c.probe), .int .i64 (c.sectors), .int .u64 (c.seed)]] M (fun v M' => v = .bool true ∧ M = M') := by
  refine FnC.intro Try.func44 rfl 6 rfl (by simp) (fun z => ?_)
  refine TC.env (E' := [(0, _)]) (Sub.cons rfl (Sub.nil _)) ?_
  refine TC.seq ?_
  refine TC.region ?_
  refine TL.does (some 1) rfl rfl rfl (Does.box rfl rfl) ?_
  rintro _ _ ⟨b1, rfl, rfl⟩
  refine TL.val rfl rfl (Nat.le_of_ble_eq_true rfl) (Val.assign rfl) ?_
  refine TL.nil ?_
  refine AtX.then ?_
  refine TC.env (E' := [(1, _), (2, _)]) (Sub.cons rfl (Sub.cons rfl (Sub.nil _))) ?_
  refine TC.seq ?_
  refine TC.region ?_
  first
    | refine TL.val rfl rfl (Nat.le_of_ble_eq_true rfl) (Val.loadAgg 0 rfl ag26 sz26 rfl rfl rfl) ?_
    | refine TL.val rfl rfl (Nat.le_of_ble_eq_true rfl) (Val.loadAgg 1 rfl ag26 sz26 rfl rfl rfl) ?_
    | refine TL.val rfl rfl (Nat.le_of_ble_eq_true rfl) (Val.loadAgg 2 rfl ag26 sz26 rfl rfl rfl) ?_
    | refine TL.val rfl rfl (Nat.le_of_ble_eq_true rfl) (Val.loadAgg 3 rfl ag26 sz26 rfl rfl rfl) ?_
    | refine TL.val rfl rfl (Nat.le_of_ble_eq_true rfl) (Val.loadAgg 4 rfl ag26 sz26 rfl rfl rfl) ?_
    | refine TL.val rfl rfl (Nat.le_of_ble_eq_true rfl) (Val.loadAgg 5 rfl ag26 sz26 rfl rfl rfl) ?_
  refine TL.does (some 4) rfl rfl rfl (Does.callF go83 rfl (Wrong_ok c _ hc)) ?_
  rintro _ _ ⟨rfl, rfl⟩
  refine TL.val rfl rfl (Nat.le_of_ble_eq_true rfl) (Val.eqlL (a := []) (b := []) rfl rfl) ?_
  refine TL.val rfl rfl (Nat.le_of_ble_eq_true rfl) (Val.assign rfl) ?_
  refine TL.nil ?_
  refine AtX.then ?_
  refine TC.env (E' := [(2, _)]) (Sub.cons rfl (Sub.nil _)) ?_
  refine TC.ret1 (fn := Try.f44) (fun _ _ h => h) rfl (RV.tmp rfl) (M' := M) (by repeat (first | exact ro_refl | exact ro_pre | refine ro_tail ?_ | refine ro_app ?_)) ?_
  exact ⟨rfl, rfl⟩

/-- quorumite/conf.May -/
theorem cMay_no (c : Cf) (M : Hp) (hn : 0 ≤ c.n ∧ c.n ≤ 1000) (hf : 0 ≤ c.f ∧ c.f ≤ 16) (ht : tg c) (h1 : c.n < 1) : FnC Try.prog 44 #[.agg #[.int .i64 (c.n), .int .i64 (c.f), .int .i64 (c.m), .int .i64 (c.quorum), .int .i64 (c.fresh), .int .i64 (c.grace), .int .i64 (c.window), .int .i64 (c.t0), .int .i64 (c.t1), .int .i64 (c.t2), .int .i64 (c.t3), .int .i64 (c.tol), .int .i64 (c.min), .int .i64 (c.max), .int .i64 (c.calmup), .int .i64 (c.calmdown), .int .i64 (c.podsup), .int .i64 (c.pctup), .int .i64 (c.podsdown), .int .i64 (c.pctdown), .int .i64 (c.period), .int .i64 (c.far), .int .i64 (c.strikes), .int .i64 (c.probe), .int .i64 (c.sectors), .int .u64 (c.seed)]] M (fun v M' => v = .bool false ∧ M = M') := by
  refine FnC.intro Try.func44 rfl 6 rfl (by simp) (fun z => ?_)
  refine TC.env (E' := [(0, _)]) (Sub.cons rfl (Sub.nil _)) ?_
  refine TC.seq ?_
  refine TC.region ?_
  refine TL.does (some 1) rfl rfl rfl (Does.box rfl rfl) ?_
  rintro _ _ ⟨b1, rfl, rfl⟩
  refine TL.val rfl rfl (Nat.le_of_ble_eq_true rfl) (Val.assign rfl) ?_
  refine TL.nil ?_
  refine AtX.then ?_
  refine TC.env (E' := [(1, _), (2, _)]) (Sub.cons rfl (Sub.cons rfl (Sub.nil _))) ?_
  refine TC.seq ?_
  refine TC.region ?_
  first
    | refine TL.val rfl rfl (Nat.le_of_ble_eq_true rfl) (Val.loadAgg 0 rfl ag26 sz26 rfl rfl rfl) ?_
    | refine TL.val rfl rfl (Nat.le_of_ble_eq_true rfl) (Val.loadAgg 1 rfl ag26 sz26 rfl rfl rfl) ?_
    | refine TL.val rfl rfl (Nat.le_of_ble_eq_true rfl) (Val.loadAgg 2 rfl ag26 sz26 rfl rfl rfl) ?_
    | refine TL.val rfl rfl (Nat.le_of_ble_eq_true rfl) (Val.loadAgg 3 rfl ag26 sz26 rfl rfl rfl) ?_
    | refine TL.val rfl rfl (Nat.le_of_ble_eq_true rfl) (Val.loadAgg 4 rfl ag26 sz26 rfl rfl rfl) ?_
    | refine TL.val rfl rfl (Nat.le_of_ble_eq_true rfl) (Val.loadAgg 5 rfl ag26 sz26 rfl rfl rfl) ?_
  refine TL.does (some 4) rfl rfl rfl (Does.callF go83 rfl (Wrong_n c _ hn hf ht h1)) ?_
  rintro _ _ ⟨rfl, rfl⟩
  refine TL.val rfl rfl (Nat.le_of_ble_eq_true rfl) (Val.eqlL (a := [110]) (b := []) rfl rfl) ?_
  refine TL.val rfl rfl (Nat.le_of_ble_eq_true rfl) (Val.assign rfl) ?_
  refine TL.nil ?_
  refine AtX.then ?_
  refine TC.env (E' := [(2, _)]) (Sub.cons rfl (Sub.nil _)) ?_
  refine TC.ret1 (fn := Try.f44) (fun _ _ h => h) rfl (RV.tmp rfl) (M' := M) (by repeat (first | exact ro_refl | exact ro_pre | refine ro_tail ?_ | refine ro_app ?_)) ?_
  exact ⟨rfl, rfl⟩

end Go.Proofs.Ytphoapajlcaoeaa
/- walks -/
set_option linter.unusedVariables false
set_option linter.unusedSimpArgs false
set_option maxRecDepth 100000
set_option maxHeartbeats 4000000
namespace Go.Proofs.Ytphoapajlcaoeaa
open Go Go.X
/-- quorumite/quorumitelaw3.Fit -/
theorem Fit_fn (zs : List Int) (A : Option Addr) (nn cc : Nat) (M : Hp) (hA : RdS M A (zs.map (Value.int .i64))) (hn : nn = zs.length) : FnC Try.prog 11 #[.slice A nn cc] M (fun v M' => ∃ c : Cf, v = .agg c.cs ∧ OkC c ∧ M = M') := by
  subst hn
  refine FnC.intro Try.func11 rfl 173 rfl (by simp) (fun z => ?_)
  refine TC.env (E' := [(0, _)]) (Sub.cons rfl (Sub.nil _)) ?_
  refine TC.seq ?_
  refine TC.region ?_
  refine TL.does (some 2) rfl rfl rfl (Does.alloc ze26 rfl) ?_
  rintro _ _ ⟨b1, rfl, rfl⟩
  refine TL.nil ?_
  refine AtX.then ?_
  refine TC.seq ?_
  refine TC.region ?_
  refine TL.does (some 7) rfl rfl rfl (Does.callF go43 rfl (refDefault_fn _)) ?_
  rintro _ _ ⟨rfl, rfl⟩
  refine TL.does (some 3) rfl rfl rfl (Does.alloc ze26 rfl) ?_
  rintro _ _ ⟨b3, rfl, rfl⟩
  refine TL.does none rfl rfl rfl (Does.storeR (ys' := [.int .i64 (4), .int .i64 (1), .int .i64 (1), .int .i64 (3), .int .i64 (2), .int .i64 (2), .int .i64 (32), .int .i64 (1000), .int .i64 (0), .int .i64 (0), .int .i64 (0), .int .i64 (100), .int .i64 (1), .int .i64 (100), .int .i64 (0), .int .i64 (3), .int .i64 (4), .int .i64 (100), .int .i64 (4), .int .i64 (50), .int .i64 (2), .int .i64 (100), .int .i64 (3), .int .i64 (4), .int .i64 (256), .int .u64 (1)]) 0 rfl rfl rfl sz26 rfl rfl (by exact Nat.le_of_ble_eq_true rfl) rfl) ?_
  rintro _ _ ⟨rfl, rfl⟩
  refine TL.nil ?_
  refine AtX.then ?_
  refine TC.env (E' := [(0, _), (2, _), (3, _)]) (Sub.cons rfl (Sub.cons rfl (Sub.cons rfl (Sub.nil _)))) ?_
  refine TC.seq ?_
  refine TC.region ?_
  refine TL.does (some 4) rfl rfl rfl (Does.alloc ze83 rfl) ?_
  rintro _ _ ⟨b4, rfl, rfl⟩
  refine TL.nil ?_
  refine AtX.then ?_
  refine TC.env (E' := [(0, _), (2, _), (3, _), (4, _)]) (Sub.cons rfl (Sub.cons rfl (Sub.cons rfl (Sub.cons rfl (Sub.nil _))))) ?_
  refine TC.seq ?_
  refine TC.seq ?_
  refine TC.heap (M' := (b3, .cells #[.int .i64 (4), .int .i64 (1), .int .i64 (1), .int .i64 (3), .int .i64 (2), .int .i64 (2), .int .i64 (32), .int .i64 (1000), .int .i64 (0), .int .i64 (0), .int .i64 (0), .int .i64 (100), .int .i64 (1), .int .i64 (100), .int .i64 (0), .int .i64 (3), .int .i64 (4), .int .i64 (100), .int .i64 (4), .int .i64 (50), .int .i64 (2), .int .i64 (100), .int .i64 (3), .int .i64 (4), .int .i64 (256), .int .u64 (1)] 26 (0, 0)) :: (b4, row 83 ((List.replicate 20 (0 : Int)).map (Value.int .i64))) :: (b1, .cells #[.int .i64 (0), .int .i64 (0), .int .i64 (0), .int .i64 (0), .int .i64 (0), .int .i64 (0), .int .i64 (0), .int .i64 (0), .int .i64 (0), .int .i64 (0), .int .i64 (0), .int .i64 (0), .int .i64 (0), .int .i64 (0), .int .i64 (0), .int .i64 (0), .int .i64 (0), .int .i64 (0), .int .i64 (0), .int .i64 (0), .int .i64 (0), .int .i64 (0), .int .i64 (0), .int .i64 (0), .int .i64 (0), .int .u64 (0)] 26 (0, 0)) :: M) (fun w h => h.perm (List.Perm.swap _ _ _)) ?_
  refine TC.region ?_
  refine TL.val rfl rfl (Nat.le_of_ble_eq_true rfl) (Val.assign rfl) ?_
  refine TL.nil ?_
  refine AtX.then ?_
  refine TC.env (E' := [(0, _), (2, _), (3, _), (4, _), (5, _)]) (Sub.cons rfl (Sub.cons rfl (Sub.cons rfl (Sub.cons rfl (Sub.cons rfl (Sub.nil _)))))) ?_
  refine TC.block ?_
  refine TC.loop (ι := (Nat × List Int)) (fun i => [(0, .slice A zs.length cc), (2, .pointer (some ⟨b1, 0, none⟩)), (3, .pointer (some ⟨b3, 0, none⟩)), (4, .pointer (some ⟨b4, 0, none⟩)), (5, .int .i64 (i.1 : Nat))]) (fun i => (b3, .cells #[.int .i64 (4), .int .i64 (1), .int .i64 (1), .int .i64 (3), .int .i64 (2), .int .i64 (2), .int .i64 (32), .int .i64 (1000), .int .i64 (0), .int .i64 (0), .int .i64 (0), .int .i64 (100), .int .i64 (1), .int .i64 (100), .int .i64 (0), .int .i64 (3), .int .i64 (4), .int .i64 (100), .int .i64 (4), .int .i64 (50), .int .i64 (2), .int .i64 (100), .int .i64 (3), .int .i64 (4), .int .i64 (256), .int .u64 (1)] 26 (0, 0)) :: (b4, row 83 (i.2.map (Value.int .i64))) :: (b1, .cells #[.int .i64 (0), .int .i64 (0), .int .i64 (0), .int .i64 (0), .int .i64 (0), .int .i64 (0), .int .i64 (0), .int .i64 (0), .int .i64 (0), .int .i64 (0), .int .i64 (0), .int .i64 (0), .int .i64 (0), .int .i64 (0), .int .i64 (0), .int .i64 (0), .int .i64 (0), .int .i64 (0), .int .i64 (0), .int .i64 (0), .int .i64 (0), .int .i64 (0), .int .i64 (0), .int .i64 (0), .int .i64 (0), .int .u64 (0)] 26 (0, 0)) :: M) (fun i => i.1 ≤ 20 ∧ i.2.length = 20 ∧ ∀ x ∈ i.2, 0 ≤ x ∧ x < 100000) (fun i => 20 - i.1) (0, List.replicate 20 0) ?_ (Sub.cons rfl (Sub.cons rfl (Sub.cons rfl (Sub.cons rfl (Sub.cons rfl (Sub.nil _)))))) (fun _ h => h) ?_
  · exact ⟨by omega, by simp, fun x hx => by have := List.eq_of_mem_replicate hx; omega⟩
  rintro ⟨i, q⟩ ⟨hi, hq, hb⟩
  dsimp only at hi hq hb ⊢
  refine TC.seq ?_
  refine TC.seq ?_
  refine TC.region ?_
  refine TL.val rfl rfl (Nat.le_of_ble_eq_true rfl) (Val.move rfl) ?_
  refine TL.val rfl rfl (Nat.le_of_ble_eq_true rfl) (Val.move rfl) ?_
  refine TL.val rfl rfl (Nat.le_of_ble_eq_true rfl) (Val.lenSl rfl rfl sl22) ?_
  refine TL.val rfl rfl (Nat.le_of_ble_eq_true rfl) (Val.lss rfl rfl) ?_
  refine TL.val rfl rfl (Nat.le_of_ble_eq_true rfl) (Val.move rfl) ?_
  refine TL.gen (fun g5 hg5 => ?_)
  refine TL.gval rfl rfl (Nat.le_of_ble_eq_true rfl) rfl (Nat.le_of_ble_eq_true rfl) rfl (fun hg => by subst hg; exact (Val.move rfl)) ?_
  refine TL.gval rfl rfl (Nat.le_of_ble_eq_true rfl) rfl (Nat.le_of_ble_eq_true rfl) rfl (fun hg => by subst hg; exact (Val.lss rfl rfl)) ?_
  first
    | refine TL.val rfl rfl (Nat.le_of_ble_eq_true rfl) (Val.pickAnd rfl rfl rfl) ?_
    | refine TL.val rfl rfl (Nat.le_of_ble_eq_true rfl) (Val.pickOr rfl rfl rfl) ?_
    | refine TL.val rfl rfl (Nat.le_of_ble_eq_true rfl) (Val.pick rfl rfl rfl) ?_
  refine TL.nil ?_
  refine AtX.then ?_
  first | refine TC.condP rfl (fun c1 => ?_) (fun c1 => ?_) | refine TC.condN rfl (fun c1 => ?_) (fun c1 => ?_) | refine TC.condB rfl (fun c1 => ?_) (fun c1 => ?_) | refine TC.cond rfl (fun c1 => ?_) (fun c1 => ?_)
  · skip
    refine TC.skip ?_
    refine AtX.then ?_
    refine TC.seq ?_
    refine TC.block ?_
    have hlt : i < zs.length ∧ i < 20 := by grind
    obtain ⟨x, hx⟩ : ∃ x, zs[i]? = some x := ⟨_, List.getElem?_eq_getElem hlt.1⟩
    obtain ⟨bA, oA, rfl, hR⟩ := RdS.get hA (by simp; omega)
    obtain ⟨r, hr, gr, lr⟩ := rem_ex (m := IntKind.u64.wrap x) (d := 100000) (by rw [w_u64m]; omega) (by decide)
    refine TC.region ?_
    refine TL.val rfl rfl (Nat.le_of_ble_eq_true rfl) (Val.move rfl) ?_
    refine TL.val rfl rfl (Nat.le_of_ble_eq_true rfl) (Val.move rfl) ?_
    refine TL.val rfl rfl (Nat.le_of_ble_eq_true rfl) (Val.move rfl) ?_
    refine TL.val rfl rfl (Nat.le_of_ble_eq_true rfl) (Val.indexAddr (i := i) (r := oA + i) rfl rfl sl22 sz3 rfl hlt.1 (by omega)) ?_
    refine TL.val rfl rfl (Nat.le_of_ble_eq_true rfl) (Val.loadRd (o := oA) (j := i) rfl ag3 (((hR.cons _).cons _).cons _) rfl (map_get hx)) ?_
    refine TL.val rfl rfl (Nat.le_of_ble_eq_true rfl) (Val.convI rfl iu3 in32 rfl) ?_
    refine TL.val rfl rfl (Nat.le_of_ble_eq_true rfl) (Val.rem rfl rfl (by decide) (r := r) hr) ?_
    refine TL.val rfl rfl (Nat.le_of_ble_eq_true rfl) (Val.convI rfl iu32 in3 (w_i64 (by omega) (by omega))) ?_
    refine TL.val rfl rfl (Nat.le_of_ble_eq_true rfl) (Val.indexAddrA (i := i) (r := i) rfl rfl ar83 sz3 rfl hlt.2 (by omega)) ?_
    refine TL.does none rfl rfl rfl (Does.storeR 1 rfl rfl rfl sz3 rfl rfl (by simp; omega) (map_set1 (f := Value.int .i64) (by omega) r)) ?_
    rintro _ _ ⟨rfl, rfl⟩
    refine TL.nil ?_
    refine AtX.blk ?_
    refine AtX.then ?_
    refine TC.region ?_
    refine TL.val rfl rfl (Nat.le_of_ble_eq_true rfl) (Val.move rfl) ?_
    first
      | refine TL.val rfl rfl (Nat.le_of_ble_eq_true rfl) (Val.add rfl rfl (w_i64 (by omega) (by omega))) ?_
      | refine TL.val rfl rfl (Nat.le_of_ble_eq_true rfl) (Val.add rfl rfl rfl) ?_
    refine TL.val rfl rfl (Nat.le_of_ble_eq_true rfl) (Val.assign rfl) ?_
    refine TL.nil ?_
    refine AtX.round (i := (i, q)) (i + 1, q.set i r) ?_ ?_ (Sub.cons rfl (Sub.cons rfl (Sub.cons rfl (Sub.cons rfl (Sub.cons rfl (Sub.nil _)))))) (fun _ h => h)
    · exact ⟨by omega, by simpa using hq, set_bd hb ⟨gr, lr⟩⟩
    · show 20 - (i + 1) < 20 - i; omega
  · skip
    refine TC.exit ?_
    refine AtX.seqX ?_
    refine AtX.seqX ?_
    refine AtX.hit ?_
    refine AtX.then ?_
    refine TC.env (E' := [(0, _), (2, _), (3, _), (4, _)]) (Sub.cons rfl (Sub.cons rfl (Sub.cons rfl (Sub.cons rfl (Sub.nil _))))) ?_
    refine TC.seq ?_
    refine TC.seq ?_
    refine TC.region ?_
    refine TL.val rfl rfl (Nat.le_of_ble_eq_true rfl) (Val.move rfl) ?_
    refine TL.val rfl rfl (Nat.le_of_ble_eq_true rfl) (Val.lenSl rfl rfl sl22) ?_
    refine TL.val rfl rfl (Nat.le_of_ble_eq_true rfl) (Val.eqlI rfl rfl) ?_
    refine TL.nil ?_
    refine AtX.then ?_
    refine TC.env (E' := [(2, _), (3, _), (4, _), (29, _)]) (Sub.cons rfl (Sub.cons rfl (Sub.cons rfl (Sub.cons rfl (Sub.nil _))))) ?_
    first | refine TC.condP rfl (fun c2 => ?_) (fun c2 => ?_) | refine TC.condN rfl (fun c2 => ?_) (fun c2 => ?_) | refine TC.condB rfl (fun c2 => ?_) (fun c2 => ?_) | refine TC.cond rfl (fun c2 => ?_) (fun c2 => ?_)
    · skip
      refine TC.env (E' := [(2, _), (3, _), (4, _)]) (Sub.cons rfl (Sub.cons rfl (Sub.cons rfl (Sub.nil _)))) ?_
      refine TC.seq ?_
      refine TC.region ?_
      refine TL.val rfl rfl (Nat.le_of_ble_eq_true rfl) (Val.loadAgg (vs := [.int .i64 (4), .int .i64 (1), .int .i64 (1), .int .i64 (3), .int .i64 (2), .int .i64 (2), .int .i64 (32), .int .i64 (1000), .int .i64 (0), .int .i64 (0), .int .i64 (0), .int .i64 (100), .int .i64 (1), .int .i64 (100), .int .i64 (0), .int .i64 (3), .int .i64 (4), .int .i64 (100), .int .i64 (4), .int .i64 (50), .int .i64 (2), .int .i64 (100), .int .i64 (3), .int .i64 (4), .int .i64 (256), .int .u64 (1)]) 0 rfl ag26 sz26 rfl rfl rfl) ?_
      refine TL.does none rfl rfl rfl (Does.storeR (ys' := [.int .i64 (4), .int .i64 (1), .int .i64 (1), .int .i64 (3), .int .i64 (2), .int .i64 (2), .int .i64 (32), .int .i64 (1000), .int .i64 (0), .int .i64 (0), .int .i64 (0), .int .i64 (100), .int .i64 (1), .int .i64 (100), .int .i64 (0), .int .i64 (3), .int .i64 (4), .int .i64 (100), .int .i64 (4), .int .i64 (50), .int .i64 (2), .int .i64 (100), .int .i64 (3), .int .i64 (4), .int .i64 (256), .int .u64 (1)]) 2 rfl rfl rfl sz26 rfl rfl (by exact Nat.le_of_ble_eq_true rfl) rfl) ?_
      rintro _ _ ⟨rfl, rfl⟩
      refine TL.nil ?_
      refine AtX.then ?_
      refine TC.env (E' := [(2, _), (3, _), (4, _)]) (Sub.cons rfl (Sub.cons rfl (Sub.cons rfl (Sub.nil _)))) ?_
      first
        | refine TC.ret1 (fn := Try.f11) (fun _ _ h => h) rfl (RV.agg (i := 0) rfl ag26 sz26 rfl rfl rfl) (M' := M) (by repeat (first | exact ro_refl | exact ro_pre | refine ro_tail ?_ | refine ro_app ?_)) ?_
        | refine TC.ret1 (fn := Try.f11) (fun _ _ h => h) rfl (RV.agg (i := 1) rfl ag26 sz26 rfl rfl rfl) (M' := M) (by repeat (first | exact ro_refl | exact ro_pre | refine ro_tail ?_ | refine ro_app ?_)) ?_
        | refine TC.ret1 (fn := Try.f11) (fun _ _ h => h) rfl (RV.agg (i := 2) rfl ag26 sz26 rfl rfl rfl) (M' := M) (by repeat (first | exact ro_refl | exact ro_pre | refine ro_tail ?_ | refine ro_app ?_)) ?_
        | refine TC.ret1 (fn := Try.f11) (fun _ _ h => h) rfl (RV.agg (i := 3) rfl ag26 sz26 rfl rfl rfl) (M' := M) (by repeat (first | exact ro_refl | exact ro_pre | refine ro_tail ?_ | refine ro_app ?_)) ?_
        | refine TC.ret1 (fn := Try.f11) (fun _ _ h => h) rfl (RV.agg (i := 4) rfl ag26 sz26 rfl rfl rfl) (M' := M) (by repeat (first | exact ro_refl | exact ro_pre | refine ro_tail ?_ | refine ro_app ?_)) ?_
        | refine TC.ret1 (fn := Try.f11) (fun _ _ h => h) rfl (RV.agg (i := 5) rfl ag26 sz26 rfl rfl rfl) (M' := M) (by repeat (first | exact ro_refl | exact ro_pre | refine ro_tail ?_ | refine ro_app ?_)) ?_
      exact ⟨cfD, rfl, okD, rfl⟩
    · skip
      refine TC.env (E' := [(2, _), (3, _), (4, _)]) (Sub.cons rfl (Sub.cons rfl (Sub.cons rfl (Sub.nil _)))) ?_
      refine TC.skip ?_
      refine AtX.then ?_
      refine TC.env (E' := [(2, _), (3, _), (4, _)]) (Sub.cons rfl (Sub.cons rfl (Sub.cons rfl (Sub.nil _)))) ?_
      refine TC.seq ?_
      obtain ⟨q0, q1, q2, q3, q4, q5, q6, q7, q8, q9, q10, q11, q12, q13, q14, q15, q16, q17, q18, q19, rfl⟩ := list20 hq
      simp only [List.mem_cons, List.not_mem_nil, or_false, forall_eq_or_imp, forall_eq] at hb
      obtain ⟨hq0, hq1, hq2, hq3, hq4, hq5, hq6, hq7, hq8, hq9, hq10, hq11, hq12, hq13, hq14, hq15, hq16, hq17, hq18, hq19⟩ := hb
      obtain ⟨a0, ha0, ga0, la0⟩ := rem_ex (m := q0) (d := 3) (by omega) (by decide)
      obtain ⟨a1, ha1, ga1, la1⟩ := rem_ex (m := q1) (d := 4) (by omega) (by decide)
      obtain ⟨a2, ha2, ga2, la2⟩ := rem_ex (m := q2) (d := 2) (by omega) (by decide)
      obtain ⟨a4, ha4, ga4, la4⟩ := rem_ex (m := q4) (d := 3) (by omega) (by decide)
      obtain ⟨a5, ha5, ga5, la5⟩ := rem_ex (m := q5) (d := 3) (by omega) (by decide)
      obtain ⟨a6, ha6, ga6, la6⟩ := rem_ex (m := q6) (d := 64) (by omega) (by decide)
      obtain ⟨a7, ha7, ga7, la7⟩ := rem_ex (m := q7) (d := 2000) (by omega) (by decide)
      obtain ⟨a8, ha8, ga8, la8⟩ := rem_ex (m := q8) (d := 2000) (by omega) (by decide)
      obtain ⟨a9, ha9, ga9, la9⟩ := rem_ex (m := q9) (d := 300) (by omega) (by decide)
      obtain ⟨a10, ha10, ga10, la10⟩ := rem_ex (m := q10) (d := 5) (by omega) (by decide)
      obtain ⟨a11, ha11, ga11, la11⟩ := rem_ex (m := q11) (d := 4) (by omega) (by decide)
      obtain ⟨a12, ha12, ga12, la12⟩ := rem_ex (m := q12) (d := 5) (by omega) (by decide)
      obtain ⟨a13, ha13, ga13, la13⟩ := rem_ex (m := q13) (d := 5) (by omega) (by decide)
      obtain ⟨a14, ha14, ga14, la14⟩ := rem_ex (m := q14) (d := 5) (by omega) (by decide)
      obtain ⟨a15, ha15, ga15, la15⟩ := rem_ex (m := q15) (d := 4) (by omega) (by decide)
      obtain ⟨a16, ha16, ga16, la16⟩ := rem_ex (m := q16) (d := 500) (by omega) (by decide)
      obtain ⟨a17, ha17, ga17, la17⟩ := rem_ex (m := q17) (d := 3) (by omega) (by decide)
      obtain ⟨a18, ha18, ga18, la18⟩ := rem_ex (m := q18) (d := 300) (by omega) (by decide)
      obtain ⟨b10, hb10, gb10, lb10⟩ := quo_ex (m := q10) (d := 5) (by omega) (by decide)
      obtain ⟨b13, hb13, gb13, lb13⟩ := quo_ex (m := q13) (d := 5) (by omega) (by decide)
      obtain ⟨b14, hb14, gb14, lb14⟩ := quo_ex (m := q14) (d := 5) (by omega) (by decide)
      obtain ⟨b17, hb17, gb17, lb17⟩ := quo_ex (m := q17) (d := 3) (by omega) (by decide)
      obtain ⟨c10, hc10, gc10, lc10⟩ := rem_ex (m := b10) (d := 60) (by omega) (by decide)
      obtain ⟨c13, hc13, gc13, lc13⟩ := rem_ex (m := b13) (d := 150) (by omega) (by decide)
      obtain ⟨c14, hc14, gc14, lc14⟩ := rem_ex (m := b14) (d := 100) (by omega) (by decide)
      obtain ⟨c17, hc17, gc17, lc17⟩ := rem_ex (m := b17) (d := 4) (by omega) (by decide)
      obtain ⟨a3, ha3, ga3, la3⟩ := rem_ex (m := q3) (d := 3 * a0 + 1 + a1 - 2 * a0) (by omega) (by omega)
      refine TC.heap (M' := (b3, .cells #[.int .i64 (4), .int .i64 (1), .int .i64 (1), .int .i64 (3), .int .i64 (2), .int .i64 (2), .int .i64 (32), .int .i64 (1000), .int .i64 (0), .int .i64 (0), .int .i64 (0), .int .i64 (100), .int .i64 (1), .int .i64 (100), .int .i64 (0), .int .i64 (3), .int .i64 (4), .int .i64 (100), .int .i64 (4), .int .i64 (50), .int .i64 (2), .int .i64 (100), .int .i64 (3), .int .i64 (4), .int .i64 (256), .int .u64 (1)] 26 (0, 0)) :: (b4, .cells #[.int .i64 q0, .int .i64 q1, .int .i64 q2, .int .i64 q3, .int .i64 q4, .int .i64 q5, .int .i64 q6, .int .i64 q7, .int .i64 q8, .int .i64 q9, .int .i64 q10, .int .i64 q11, .int .i64 q12, .int .i64 q13, .int .i64 q14, .int .i64 q15, .int .i64 q16, .int .i64 q17, .int .i64 q18, .int .i64 q19] 83 (0, 0)) :: (b1, .cells #[.int .i64 (0), .int .i64 (0), .int .i64 (0), .int .i64 (0), .int .i64 (0), .int .i64 (0), .int .i64 (0), .int .i64 (0), .int .i64 (0), .int .i64 (0), .int .i64 (0), .int .i64 (0), .int .i64 (0), .int .i64 (0), .int .i64 (0), .int .i64 (0), .int .i64 (0), .int .i64 (0), .int .i64 (0), .int .i64 (0), .int .i64 (0), .int .i64 (0), .int .i64 (0), .int .i64 (0), .int .i64 (0), .int .u64 (0)] 26 (0, 0)) :: M) (fun w h => h) ?_
      refine TC.region ?_
      refine TL.val rfl rfl (Nat.le_of_ble_eq_true rfl) (Val.indexAddrA (i := 0) rfl rfl ar83 sz3 rfl (by first | decide | omega) rfl) ?_
      first
        | refine TL.val rfl rfl (Nat.le_of_ble_eq_true rfl) (Val.load 0 rfl ag3 rfl rfl) ?_
        | refine TL.val rfl rfl (Nat.le_of_ble_eq_true rfl) (Val.load 1 rfl ag3 rfl rfl) ?_
        | refine TL.val rfl rfl (Nat.le_of_ble_eq_true rfl) (Val.load 2 rfl ag3 rfl rfl) ?_
        | refine TL.val rfl rfl (Nat.le_of_ble_eq_true rfl) (Val.load 3 rfl ag3 rfl rfl) ?_
        | refine TL.val rfl rfl (Nat.le_of_ble_eq_true rfl) (Val.load 4 rfl ag3 rfl rfl) ?_
        | refine TL.val rfl rfl (Nat.le_of_ble_eq_true rfl) (Val.load 5 rfl ag3 rfl rfl) ?_
      refine TL.val rfl rfl (Nat.le_of_ble_eq_true rfl) (Val.rem rfl rfl (by first | decide | omega) (r := a0) ha0) ?_
      refine TL.val rfl rfl (Nat.le_of_ble_eq_true rfl) (Val.fieldAddr rfl fl26_1 sz3 rfl) ?_
      first
        | refine TL.does none rfl rfl rfl (Does.store (i := 0) rfl rfl rfl sz3 rfl rfl (by first | exact Nat.le_of_ble_eq_true rfl | decide | omega) rfl rfl) ?_
        | refine TL.does none rfl rfl rfl (Does.store (i := 1) rfl rfl rfl sz3 rfl rfl (by first | exact Nat.le_of_ble_eq_true rfl | decide | omega) rfl rfl) ?_
        | refine TL.does none rfl rfl rfl (Does.store (i := 2) rfl rfl rfl sz3 rfl rfl (by first | exact Nat.le_of_ble_eq_true rfl | decide | omega) rfl rfl) ?_
        | refine TL.does none rfl rfl rfl (Does.store (i := 3) rfl rfl rfl sz3 rfl rfl (by first | exact Nat.le_of_ble_eq_true rfl | decide | omega) rfl rfl) ?_
        | refine TL.does none rfl rfl rfl (Does.store (i := 4) rfl rfl rfl sz3 rfl rfl (by first | exact Nat.le_of_ble_eq_true rfl | decide | omega) rfl rfl) ?_
        | refine TL.does none rfl rfl rfl (Does.store (i := 5) rfl rfl rfl sz3 rfl rfl (by first | exact Nat.le_of_ble_eq_true rfl | decide | omega) rfl rfl) ?_
      rintro _ _ ⟨rfl, rfl⟩
      refine TL.nil ?_
      refine AtX.then ?_
      refine TC.env (E' := [(2, _), (3, _), (4, _)]) (Sub.cons rfl (Sub.cons rfl (Sub.cons rfl (Sub.nil _)))) ?_
      refine TC.seq ?_
      refine TC.heap (M' := (b3, .cells #[.int .i64 (4), .int .i64 (a0), .int .i64 (1), .int .i64 (3), .int .i64 (2), .int .i64 (2), .int .i64 (32), .int .i64 (1000), .int .i64 (0), .int .i64 (0), .int .i64 (0), .int .i64 (100), .int .i64 (1), .int .i64 (100), .int .i64 (0), .int .i64 (3), .int .i64 (4), .int .i64 (100), .int .i64 (4), .int .i64 (50), .int .i64 (2), .int .i64 (100), .int .i64 (3), .int .i64 (4), .int .i64 (256), .int .u64 (1)] 26 (0, 0)) :: (b4, .cells #[.int .i64 q0, .int .i64 q1, .int .i64 q2, .int .i64 q3, .int .i64 q4, .int .i64 q5, .int .i64 q6, .int .i64 q7, .int .i64 q8, .int .i64 q9, .int .i64 q10, .int .i64 q11, .int .i64 q12, .int .i64 q13, .int .i64 q14, .int .i64 q15, .int .i64 q16, .int .i64 q17, .int .i64 q18, .int .i64 q19] 83 (0, 0)) :: (b1, .cells #[.int .i64 (0), .int .i64 (0), .int .i64 (0), .int .i64 (0), .int .i64 (0), .int .i64 (0), .int .i64 (0), .int .i64 (0), .int .i64 (0), .int .i64 (0), .int .i64 (0), .int .i64 (0), .int .i64 (0), .int .i64 (0), .int .i64 (0), .int .i64 (0), .int .i64 (0), .int .i64 (0), .int .i64 (0), .int .i64 (0), .int .i64 (0), .int .i64 (0), .int .i64 (0), .int .i64 (0), .int .i64 (0), .int .u64 (0)] 26 (0, 0)) :: M) (fun w h => h) ?_
      refine TC.region ?_
      refine TL.val rfl rfl (Nat.le_of_ble_eq_true rfl) (Val.fieldAddr rfl fl26_1 sz3 rfl) ?_
      first
        | refine TL.val rfl rfl (Nat.le_of_ble_eq_true rfl) (Val.load 0 rfl ag3 rfl rfl) ?_
        | refine TL.val rfl rfl (Nat.le_of_ble_eq_true rfl) (Val.load 1 rfl ag3 rfl rfl) ?_
        | refine TL.val rfl rfl (Nat.le_of_ble_eq_true rfl) (Val.load 2 rfl ag3 rfl rfl) ?_
        | refine TL.val rfl rfl (Nat.le_of_ble_eq_true rfl) (Val.load 3 rfl ag3 rfl rfl) ?_
        | refine TL.val rfl rfl (Nat.le_of_ble_eq_true rfl) (Val.load 4 rfl ag3 rfl rfl) ?_
        | refine TL.val rfl rfl (Nat.le_of_ble_eq_true rfl) (Val.load 5 rfl ag3 rfl rfl) ?_
      first
        | refine TL.val rfl rfl (Nat.le_of_ble_eq_true rfl) (Val.mul rfl rfl (w_i64 (by omega) (by omega))) ?_
        | refine TL.val rfl rfl (Nat.le_of_ble_eq_true rfl) (Val.mul rfl rfl rfl) ?_
      first
        | refine TL.val rfl rfl (Nat.le_of_ble_eq_true rfl) (Val.add rfl rfl (w_i64 (by omega) (by omega))) ?_
        | refine TL.val rfl rfl (Nat.le_of_ble_eq_true rfl) (Val.add rfl rfl rfl) ?_
      refine TL.val rfl rfl (Nat.le_of_ble_eq_true rfl) (Val.indexAddrA (i := 1) rfl rfl ar83 sz3 rfl (by first | decide | omega) rfl) ?_
      first
        | refine TL.val rfl rfl (Nat.le_of_ble_eq_true rfl) (Val.load 0 rfl ag3 rfl rfl) ?_
        | refine TL.val rfl rfl (Nat.le_of_ble_eq_true rfl) (Val.load 1 rfl ag3 rfl rfl) ?_
        | refine TL.val rfl rfl (Nat.le_of_ble_eq_true rfl) (Val.load 2 rfl ag3 rfl rfl) ?_
        | refine TL.val rfl rfl (Nat.le_of_ble_eq_true rfl) (Val.load 3 rfl ag3 rfl rfl) ?_
        | refine TL.val rfl rfl (Nat.le_of_ble_eq_true rfl) (Val.load 4 rfl ag3 rfl rfl) ?_
        | refine TL.val rfl rfl (Nat.le_of_ble_eq_true rfl) (Val.load 5 rfl ag3 rfl rfl) ?_
      refine TL.val rfl rfl (Nat.le_of_ble_eq_true rfl) (Val.rem rfl rfl (by first | decide | omega) (r := a1) ha1) ?_
      first
        | refine TL.val rfl rfl (Nat.le_of_ble_eq_true rfl) (Val.add rfl rfl (w_i64 (by omega) (by omega))) ?_
        | refine TL.val rfl rfl (Nat.le_of_ble_eq_true rfl) (Val.add rfl rfl rfl) ?_
      refine TL.val rfl rfl (Nat.le_of_ble_eq_true rfl) (Val.fieldAddr rfl fl26_0 sz3 rfl) ?_
      first
        | refine TL.does none rfl rfl rfl (Does.store (i := 0) rfl rfl rfl sz3 rfl rfl (by first | exact Nat.le_of_ble_eq_true rfl | decide | omega) rfl rfl) ?_
        | refine TL.does none rfl rfl rfl (Does.store (i := 1) rfl rfl rfl sz3 rfl rfl (by first | exact Nat.le_of_ble_eq_true rfl | decide | omega) rfl rfl) ?_
        | refine TL.does none rfl rfl rfl (Does.store (i := 2) rfl rfl rfl sz3 rfl rfl (by first | exact Nat.le_of_ble_eq_true rfl | decide | omega) rfl rfl) ?_
        | refine TL.does none rfl rfl rfl (Does.store (i := 3) rfl rfl rfl sz3 rfl rfl (by first | exact Nat.le_of_ble_eq_true rfl | decide | omega) rfl rfl) ?_
        | refine TL.does none rfl rfl rfl (Does.store (i := 4) rfl rfl rfl sz3 rfl rfl (by first | exact Nat.le_of_ble_eq_true rfl | decide | omega) rfl rfl) ?_
        | refine TL.does none rfl rfl rfl (Does.store (i := 5) rfl rfl rfl sz3 rfl rfl (by first | exact Nat.le_of_ble_eq_true rfl | decide | omega) rfl rfl) ?_
      rintro _ _ ⟨rfl, rfl⟩
      refine TL.nil ?_
      refine AtX.then ?_
      refine TC.env (E' := [(2, _), (3, _), (4, _)]) (Sub.cons rfl (Sub.cons rfl (Sub.cons rfl (Sub.nil _)))) ?_
      refine TC.seq ?_
      refine TC.heap (M' := (b3, .cells #[.int .i64 (3 * a0 + 1 + a1), .int .i64 (a0), .int .i64 (1), .int .i64 (3), .int .i64 (2), .int .i64 (2), .int .i64 (32), .int .i64 (1000), .int .i64 (0), .int .i64 (0), .int .i64 (0), .int .i64 (100), .int .i64 (1), .int .i64 (100), .int .i64 (0), .int .i64 (3), .int .i64 (4), .int .i64 (100), .int .i64 (4), .int .i64 (50), .int .i64 (2), .int .i64 (100), .int .i64 (3), .int .i64 (4), .int .i64 (256), .int .u64 (1)] 26 (0, 0)) :: (b4, .cells #[.int .i64 q0, .int .i64 q1, .int .i64 q2, .int .i64 q3, .int .i64 q4, .int .i64 q5, .int .i64 q6, .int .i64 q7, .int .i64 q8, .int .i64 q9, .int .i64 q10, .int .i64 q11, .int .i64 q12, .int .i64 q13, .int .i64 q14, .int .i64 q15, .int .i64 q16, .int .i64 q17, .int .i64 q18, .int .i64 q19] 83 (0, 0)) :: (b1, .cells #[.int .i64 (0), .int .i64 (0), .int .i64 (0), .int .i64 (0), .int .i64 (0), .int .i64 (0), .int .i64 (0), .int .i64 (0), .int .i64 (0), .int .i64 (0), .int .i64 (0), .int .i64 (0), .int .i64 (0), .int .i64 (0), .int .i64 (0), .int .i64 (0), .int .i64 (0), .int .i64 (0), .int .i64 (0), .int .i64 (0), .int .i64 (0), .int .i64 (0), .int .i64 (0), .int .i64 (0), .int .i64 (0), .int .u64 (0)] 26 (0, 0)) :: M) (fun w h => h) ?_
      refine TC.region ?_
      refine TL.val rfl rfl (Nat.le_of_ble_eq_true rfl) (Val.indexAddrA (i := 2) rfl rfl ar83 sz3 rfl (by first | decide | omega) rfl) ?_
      first
        | refine TL.val rfl rfl (Nat.le_of_ble_eq_true rfl) (Val.load 0 rfl ag3 rfl rfl) ?_
        | refine TL.val rfl rfl (Nat.le_of_ble_eq_true rfl) (Val.load 1 rfl ag3 rfl rfl) ?_
        | refine TL.val rfl rfl (Nat.le_of_ble_eq_true rfl) (Val.load 2 rfl ag3 rfl rfl) ?_
        | refine TL.val rfl rfl (Nat.le_of_ble_eq_true rfl) (Val.load 3 rfl ag3 rfl rfl) ?_
        | refine TL.val rfl rfl (Nat.le_of_ble_eq_true rfl) (Val.load 4 rfl ag3 rfl rfl) ?_
        | refine TL.val rfl rfl (Nat.le_of_ble_eq_true rfl) (Val.load 5 rfl ag3 rfl rfl) ?_
      refine TL.val rfl rfl (Nat.le_of_ble_eq_true rfl) (Val.rem rfl rfl (by first | decide | omega) (r := a2) ha2) ?_
      first
        | refine TL.val rfl rfl (Nat.le_of_ble_eq_true rfl) (Val.add rfl rfl (w_i64 (by omega) (by omega))) ?_
        | refine TL.val rfl rfl (Nat.le_of_ble_eq_true rfl) (Val.add rfl rfl rfl) ?_
      refine TL.val rfl rfl (Nat.le_of_ble_eq_true rfl) (Val.fieldAddr rfl fl26_2 sz3 rfl) ?_
      first
        | refine TL.does none rfl rfl rfl (Does.store (i := 0) rfl rfl rfl sz3 rfl rfl (by first | exact Nat.le_of_ble_eq_true rfl | decide | omega) rfl rfl) ?_
        | refine TL.does none rfl rfl rfl (Does.store (i := 1) rfl rfl rfl sz3 rfl rfl (by first | exact Nat.le_of_ble_eq_true rfl | decide | omega) rfl rfl) ?_
        | refine TL.does none rfl rfl rfl (Does.store (i := 2) rfl rfl rfl sz3 rfl rfl (by first | exact Nat.le_of_ble_eq_true rfl | decide | omega) rfl rfl) ?_
        | refine TL.does none rfl rfl rfl (Does.store (i := 3) rfl rfl rfl sz3 rfl rfl (by first | exact Nat.le_of_ble_eq_true rfl | decide | omega) rfl rfl) ?_
        | refine TL.does none rfl rfl rfl (Does.store (i := 4) rfl rfl rfl sz3 rfl rfl (by first | exact Nat.le_of_ble_eq_true rfl | decide | omega) rfl rfl) ?_
        | refine TL.does none rfl rfl rfl (Does.store (i := 5) rfl rfl rfl sz3 rfl rfl (by first | exact Nat.le_of_ble_eq_true rfl | decide | omega) rfl rfl) ?_
      rintro _ _ ⟨rfl, rfl⟩
      refine TL.nil ?_
      refine AtX.then ?_
      refine TC.env (E' := [(2, _), (3, _), (4, _)]) (Sub.cons rfl (Sub.cons rfl (Sub.cons rfl (Sub.nil _)))) ?_
      refine TC.seq ?_
      refine TC.heap (M' := (b3, .cells #[.int .i64 (3 * a0 + 1 + a1), .int .i64 (a0), .int .i64 (1 + a2), .int .i64 (3), .int .i64 (2), .int .i64 (2), .int .i64 (32), .int .i64 (1000), .int .i64 (0), .int .i64 (0), .int .i64 (0), .int .i64 (100), .int .i64 (1), .int .i64 (100), .int .i64 (0), .int .i64 (3), .int .i64 (4), .int .i64 (100), .int .i64 (4), .int .i64 (50), .int .i64 (2), .int .i64 (100), .int .i64 (3), .int .i64 (4), .int .i64 (256), .int .u64 (1)] 26 (0, 0)) :: (b4, .cells #[.int .i64 q0, .int .i64 q1, .int .i64 q2, .int .i64 q3, .int .i64 q4, .int .i64 q5, .int .i64 q6, .int .i64 q7, .int .i64 q8, .int .i64 q9, .int .i64 q10, .int .i64 q11, .int .i64 q12, .int .i64 q13, .int .i64 q14, .int .i64 q15, .int .i64 q16, .int .i64 q17, .int .i64 q18, .int .i64 q19] 83 (0, 0)) :: (b1, .cells #[.int .i64 (0), .int .i64 (0), .int .i64 (0), .int .i64 (0), .int .i64 (0), .int .i64 (0), .int .i64 (0), .int .i64 (0), .int .i64 (0), .int .i64 (0), .int .i64 (0), .int .i64 (0), .int .i64 (0), .int .i64 (0), .int .i64 (0), .int .i64 (0), .int .i64 (0), .int .i64 (0), .int .i64 (0), .int .i64 (0), .int .i64 (0), .int .i64 (0), .int .i64 (0), .int .i64 (0), .int .i64 (0), .int .u64 (0)] 26 (0, 0)) :: M) (fun w h => h) ?_
      refine TC.drawG [15] ((b4, .cells #[.int .i64 q0, .int .i64 q1, .int .i64 q2, .int .i64 q3, .int .i64 q4, .int .i64 q5, .int .i64 q6, .int .i64 q7, .int .i64 q8, .int .i64 q9, .int .i64 q10, .int .i64 q11, .int .i64 q12, .int .i64 q13, .int .i64 q14, .int .i64 q15, .int .i64 q16, .int .i64 q17, .int .i64 q18, .int .i64 q19] 83 (0, 0)) :: (b1, .cells #[.int .i64 (0), .int .i64 (0), .int .i64 (0), .int .i64 (0), .int .i64 (0), .int .i64 (0), .int .i64 (0), .int .i64 (0), .int .i64 (0), .int .i64 (0), .int .i64 (0), .int .i64 (0), .int .i64 (0), .int .i64 (0), .int .i64 (0), .int .i64 (0), .int .i64 (0), .int .i64 (0), .int .i64 (0), .int .i64 (0), .int .i64 (0), .int .i64 (0), .int .i64 (0), .int .i64 (0), .int .i64 (0), .int .u64 (0)] 26 (0, 0)) :: M) mixed 16 ?_
      refine TG.tk false 0 1 rfl rfl rfl (Val.fieldAddr rfl fl26_1 sz3 rfl) ?_
      first
        | refine TG.tk false 1 3 rfl rfl rfl (Val.load 0 rfl ag3 rfl rfl) ?_
        | refine TG.tk false 1 3 rfl rfl rfl (Val.load 1 rfl ag3 rfl rfl) ?_
        | refine TG.tk false 1 3 rfl rfl rfl (Val.load 2 rfl ag3 rfl rfl) ?_
        | refine TG.tk false 1 3 rfl rfl rfl (Val.load 3 rfl ag3 rfl rfl) ?_
        | refine TG.tk false 1 3 rfl rfl rfl (Val.load 4 rfl ag3 rfl rfl) ?_
        | refine TG.tk false 1 3 rfl rfl rfl (Val.load 5 rfl ag3 rfl rfl) ?_
      first
        | refine TG.tk false 2 7 rfl rfl rfl (Val.mul rfl rfl (w_i64 (by omega) (by omega))) ?_
        | refine TG.tk false 2 7 rfl rfl rfl (Val.mul rfl rfl rfl) ?_
      first
        | refine TG.tk false 3 15 rfl rfl rfl (Val.add rfl rfl (w_i64 (by omega) (by omega))) ?_
        | refine TG.tk false 3 15 rfl rfl rfl (Val.add rfl rfl rfl) ?_
      refine TG.tk false 4 31 rfl rfl rfl (Val.indexAddrA (i := 3) rfl rfl ar83 sz3 rfl (by first | decide | omega) rfl) ?_
      first
        | refine TG.tk false 5 63 rfl rfl rfl (Val.load 0 rfl ag3 rfl rfl) ?_
        | refine TG.tk false 5 63 rfl rfl rfl (Val.load 1 rfl ag3 rfl rfl) ?_
        | refine TG.tk false 5 63 rfl rfl rfl (Val.load 2 rfl ag3 rfl rfl) ?_
        | refine TG.tk false 5 63 rfl rfl rfl (Val.load 3 rfl ag3 rfl rfl) ?_
        | refine TG.tk false 5 63 rfl rfl rfl (Val.load 4 rfl ag3 rfl rfl) ?_
        | refine TG.tk false 5 63 rfl rfl rfl (Val.load 5 rfl ag3 rfl rfl) ?_
      refine TG.tk false 6 127 rfl rfl rfl (Val.fieldAddr rfl fl26_0 sz3 rfl) ?_
      first
        | refine TG.tk false 7 255 rfl rfl rfl (Val.load 0 rfl ag3 rfl rfl) ?_
        | refine TG.tk false 7 255 rfl rfl rfl (Val.load 1 rfl ag3 rfl rfl) ?_
        | refine TG.tk false 7 255 rfl rfl rfl (Val.load 2 rfl ag3 rfl rfl) ?_
        | refine TG.tk false 7 255 rfl rfl rfl (Val.load 3 rfl ag3 rfl rfl) ?_
        | refine TG.tk false 7 255 rfl rfl rfl (Val.load 4 rfl ag3 rfl rfl) ?_
        | refine TG.tk false 7 255 rfl rfl rfl (Val.load 5 rfl ag3 rfl rfl) ?_
      refine TG.tk false 8 511 rfl rfl rfl (Val.fieldAddr rfl fl26_1 sz3 rfl) ?_
      first
        | refine TG.tk false 9 1023 rfl rfl rfl (Val.load 0 rfl ag3 rfl rfl) ?_
        | refine TG.tk false 9 1023 rfl rfl rfl (Val.load 1 rfl ag3 rfl rfl) ?_
        | refine TG.tk false 9 1023 rfl rfl rfl (Val.load 2 rfl ag3 rfl rfl) ?_
        | refine TG.tk false 9 1023 rfl rfl rfl (Val.load 3 rfl ag3 rfl rfl) ?_
        | refine TG.tk false 9 1023 rfl rfl rfl (Val.load 4 rfl ag3 rfl rfl) ?_
        | refine TG.tk false 9 1023 rfl rfl rfl (Val.load 5 rfl ag3 rfl rfl) ?_
      first
        | refine TG.tk false 10 2047 rfl rfl rfl (Val.mul rfl rfl (w_i64 (by omega) (by omega))) ?_
        | refine TG.tk false 10 2047 rfl rfl rfl (Val.mul rfl rfl rfl) ?_
      first
        | refine TG.tk false 11 4095 rfl rfl rfl (Val.sub rfl rfl (w_i64 (by omega) (by omega))) ?_
        | refine TG.tk false 11 4095 rfl rfl rfl (Val.sub rfl rfl rfl) ?_
      refine TG.tk false 12 8191 rfl rfl rfl (Val.rem rfl rfl (by first | decide | omega) (r := a3) ha3) ?_
      first
        | refine TG.tk false 13 16383 rfl rfl rfl (Val.add rfl rfl (w_i64 (by omega) (by omega))) ?_
        | refine TG.tk false 13 16383 rfl rfl rfl (Val.add rfl rfl rfl) ?_
      refine TG.tk false 14 32767 rfl rfl rfl (Val.fieldAddr rfl fl26_3 sz3 rfl) ?_
      refine TG.one 15 (by kernel_rfl) ?_
      first
        | refine TP.dz true 65535 none rfl rfl rfl rfl (Does.store (i := 0) rfl rfl rfl sz3 rfl rfl (by first | exact Nat.le_of_ble_eq_true rfl | decide | omega) rfl rfl) ?_
        | refine TP.dz true 65535 none rfl rfl rfl rfl (Does.store (i := 1) rfl rfl rfl sz3 rfl rfl (by first | exact Nat.le_of_ble_eq_true rfl | decide | omega) rfl rfl) ?_
        | refine TP.dz true 65535 none rfl rfl rfl rfl (Does.store (i := 2) rfl rfl rfl sz3 rfl rfl (by first | exact Nat.le_of_ble_eq_true rfl | decide | omega) rfl rfl) ?_
        | refine TP.dz true 65535 none rfl rfl rfl rfl (Does.store (i := 3) rfl rfl rfl sz3 rfl rfl (by first | exact Nat.le_of_ble_eq_true rfl | decide | omega) rfl rfl) ?_
        | refine TP.dz true 65535 none rfl rfl rfl rfl (Does.store (i := 4) rfl rfl rfl sz3 rfl rfl (by first | exact Nat.le_of_ble_eq_true rfl | decide | omega) rfl rfl) ?_
        | refine TP.dz true 65535 none rfl rfl rfl rfl (Does.store (i := 5) rfl rfl rfl sz3 rfl rfl (by first | exact Nat.le_of_ble_eq_true rfl | decide | omega) rfl rfl) ?_
      rintro _ _ ⟨rfl, rfl⟩
      refine roK ?_
      refine TG.done (by kernel_rfl) ?_ _
      refine AtX.then ?_
      refine TC.env (E' := [(2, _), (3, _), (4, _)]) (Sub.cons rfl (Sub.cons rfl (Sub.cons rfl (Sub.nil _)))) ?_
      refine TC.seq ?_
      refine TC.heap (M' := (b3, .cells #[.int .i64 (3 * a0 + 1 + a1), .int .i64 (a0), .int .i64 (1 + a2), .int .i64 (2 * a0 + 1 + a3), .int .i64 (2), .int .i64 (2), .int .i64 (32), .int .i64 (1000), .int .i64 (0), .int .i64 (0), .int .i64 (0), .int .i64 (100), .int .i64 (1), .int .i64 (100), .int .i64 (0), .int .i64 (3), .int .i64 (4), .int .i64 (100), .int .i64 (4), .int .i64 (50), .int .i64 (2), .int .i64 (100), .int .i64 (3), .int .i64 (4), .int .i64 (256), .int .u64 (1)] 26 (0, 0)) :: (b4, .cells #[.int .i64 q0, .int .i64 q1, .int .i64 q2, .int .i64 q3, .int .i64 q4, .int .i64 q5, .int .i64 q6, .int .i64 q7, .int .i64 q8, .int .i64 q9, .int .i64 q10, .int .i64 q11, .int .i64 q12, .int .i64 q13, .int .i64 q14, .int .i64 q15, .int .i64 q16, .int .i64 q17, .int .i64 q18, .int .i64 q19] 83 (0, 0)) :: (b1, .cells #[.int .i64 (0), .int .i64 (0), .int .i64 (0), .int .i64 (0), .int .i64 (0), .int .i64 (0), .int .i64 (0), .int .i64 (0), .int .i64 (0), .int .i64 (0), .int .i64 (0), .int .i64 (0), .int .i64 (0), .int .i64 (0), .int .i64 (0), .int .i64 (0), .int .i64 (0), .int .i64 (0), .int .i64 (0), .int .i64 (0), .int .i64 (0), .int .i64 (0), .int .i64 (0), .int .i64 (0), .int .i64 (0), .int .u64 (0)] 26 (0, 0)) :: M) (fun w h => h) ?_
      refine TC.drawL ((b4, .cells #[.int .i64 q0, .int .i64 q1, .int .i64 q2, .int .i64 q3, .int .i64 q4, .int .i64 q5, .int .i64 q6, .int .i64 q7, .int .i64 q8, .int .i64 q9, .int .i64 q10, .int .i64 q11, .int .i64 q12, .int .i64 q13, .int .i64 q14, .int .i64 q15, .int .i64 q16, .int .i64 q17, .int .i64 q18, .int .i64 q19] 83 (0, 0)) :: (b1, .cells #[.int .i64 (0), .int .i64 (0), .int .i64 (0), .int .i64 (0), .int .i64 (0), .int .i64 (0), .int .i64 (0), .int .i64 (0), .int .i64 (0), .int .i64 (0), .int .i64 (0), .int .i64 (0), .int .i64 (0), .int .i64 (0), .int .i64 (0), .int .i64 (0), .int .i64 (0), .int .i64 (0), .int .i64 (0), .int .i64 (0), .int .i64 (0), .int .i64 (0), .int .i64 (0), .int .i64 (0), .int .i64 (0), .int .u64 (0)] 26 (0, 0)) :: M) mixed 18 ?_
      refine TA.tk 0 1 rfl rfl rfl (Val.indexAddrA (i := 4) rfl rfl ar83 sz3 rfl (by first | decide | omega) rfl) ?_
      first
        | refine TA.tk 1 3 rfl rfl rfl (Val.load 0 rfl ag3 rfl rfl) ?_
        | refine TA.tk 1 3 rfl rfl rfl (Val.load 1 rfl ag3 rfl rfl) ?_
        | refine TA.tk 1 3 rfl rfl rfl (Val.load 2 rfl ag3 rfl rfl) ?_
        | refine TA.tk 1 3 rfl rfl rfl (Val.load 3 rfl ag3 rfl rfl) ?_
        | refine TA.tk 1 3 rfl rfl rfl (Val.load 4 rfl ag3 rfl rfl) ?_
        | refine TA.tk 1 3 rfl rfl rfl (Val.load 5 rfl ag3 rfl rfl) ?_
      refine TA.tk 2 7 rfl rfl rfl (Val.rem rfl rfl (by first | decide | omega) (r := a4) ha4) ?_
      first
        | refine TA.tk 3 15 rfl rfl rfl (Val.add rfl rfl (w_i64 (by omega) (by omega))) ?_
        | refine TA.tk 3 15 rfl rfl rfl (Val.add rfl rfl rfl) ?_
      refine TA.tk 4 31 rfl rfl rfl (Val.indexAddrA (i := 5) rfl rfl ar83 sz3 rfl (by first | decide | omega) rfl) ?_
      first
        | refine TA.tk 5 63 rfl rfl rfl (Val.load 0 rfl ag3 rfl rfl) ?_
        | refine TA.tk 5 63 rfl rfl rfl (Val.load 1 rfl ag3 rfl rfl) ?_
        | refine TA.tk 5 63 rfl rfl rfl (Val.load 2 rfl ag3 rfl rfl) ?_
        | refine TA.tk 5 63 rfl rfl rfl (Val.load 3 rfl ag3 rfl rfl) ?_
        | refine TA.tk 5 63 rfl rfl rfl (Val.load 4 rfl ag3 rfl rfl) ?_
        | refine TA.tk 5 63 rfl rfl rfl (Val.load 5 rfl ag3 rfl rfl) ?_
      refine TA.tk 6 127 rfl rfl rfl (Val.rem rfl rfl (by first | decide | omega) (r := a5) ha5) ?_
      first
        | refine TA.tk 7 255 rfl rfl rfl (Val.add rfl rfl (w_i64 (by omega) (by omega))) ?_
        | refine TA.tk 7 255 rfl rfl rfl (Val.add rfl rfl rfl) ?_
      refine TA.tk 8 511 rfl rfl rfl (Val.indexAddrA (i := 6) rfl rfl ar83 sz3 rfl (by first | decide | omega) rfl) ?_
      first
        | refine TA.tk 9 1023 rfl rfl rfl (Val.load 0 rfl ag3 rfl rfl) ?_
        | refine TA.tk 9 1023 rfl rfl rfl (Val.load 1 rfl ag3 rfl rfl) ?_
        | refine TA.tk 9 1023 rfl rfl rfl (Val.load 2 rfl ag3 rfl rfl) ?_
        | refine TA.tk 9 1023 rfl rfl rfl (Val.load 3 rfl ag3 rfl rfl) ?_
        | refine TA.tk 9 1023 rfl rfl rfl (Val.load 4 rfl ag3 rfl rfl) ?_
        | refine TA.tk 9 1023 rfl rfl rfl (Val.load 5 rfl ag3 rfl rfl) ?_
      refine TA.tk 10 2047 rfl rfl rfl (Val.rem rfl rfl (by first | decide | omega) (r := a6) ha6) ?_
      first
        | refine TA.tk 11 4095 rfl rfl rfl (Val.add rfl rfl (w_i64 (by omega) (by omega))) ?_
        | refine TA.tk 11 4095 rfl rfl rfl (Val.add rfl rfl rfl) ?_
      refine TA.tk 12 8191 rfl rfl rfl (Val.fieldAddr rfl fl26_4 sz3 rfl) ?_
      refine TA.one 13 (by kernel_rfl) ?_
      first
        | refine TO.dz 16383 none rfl rfl rfl rfl (Does.store (i := 0) rfl rfl rfl sz3 rfl rfl (by first | exact Nat.le_of_ble_eq_true rfl | decide | omega) rfl rfl) ?_
        | refine TO.dz 16383 none rfl rfl rfl rfl (Does.store (i := 1) rfl rfl rfl sz3 rfl rfl (by first | exact Nat.le_of_ble_eq_true rfl | decide | omega) rfl rfl) ?_
        | refine TO.dz 16383 none rfl rfl rfl rfl (Does.store (i := 2) rfl rfl rfl sz3 rfl rfl (by first | exact Nat.le_of_ble_eq_true rfl | decide | omega) rfl rfl) ?_
        | refine TO.dz 16383 none rfl rfl rfl rfl (Does.store (i := 3) rfl rfl rfl sz3 rfl rfl (by first | exact Nat.le_of_ble_eq_true rfl | decide | omega) rfl rfl) ?_
        | refine TO.dz 16383 none rfl rfl rfl rfl (Does.store (i := 4) rfl rfl rfl sz3 rfl rfl (by first | exact Nat.le_of_ble_eq_true rfl | decide | omega) rfl rfl) ?_
        | refine TO.dz 16383 none rfl rfl rfl rfl (Does.store (i := 5) rfl rfl rfl sz3 rfl rfl (by first | exact Nat.le_of_ble_eq_true rfl | decide | omega) rfl rfl) ?_
      rintro _ _ ⟨rfl, rfl⟩
      refine roK ?_
      refine TA.tk 14 32767 rfl rfl rfl (Val.fieldAddr rfl fl26_5 sz3 rfl) ?_
      refine TA.one 15 (by kernel_rfl) ?_
      first
        | refine TO.dz 65535 none rfl rfl rfl rfl (Does.store (i := 0) rfl rfl rfl sz3 rfl rfl (by first | exact Nat.le_of_ble_eq_true rfl | decide | omega) rfl rfl) ?_
        | refine TO.dz 65535 none rfl rfl rfl rfl (Does.store (i := 1) rfl rfl rfl sz3 rfl rfl (by first | exact Nat.le_of_ble_eq_true rfl | decide | omega) rfl rfl) ?_
        | refine TO.dz 65535 none rfl rfl rfl rfl (Does.store (i := 2) rfl rfl rfl sz3 rfl rfl (by first | exact Nat.le_of_ble_eq_true rfl | decide | omega) rfl rfl) ?_
        | refine TO.dz 65535 none rfl rfl rfl rfl (Does.store (i := 3) rfl rfl rfl sz3 rfl rfl (by first | exact Nat.le_of_ble_eq_true rfl | decide | omega) rfl rfl) ?_
        | refine TO.dz 65535 none rfl rfl rfl rfl (Does.store (i := 4) rfl rfl rfl sz3 rfl rfl (by first | exact Nat.le_of_ble_eq_true rfl | decide | omega) rfl rfl) ?_
        | refine TO.dz 65535 none rfl rfl rfl rfl (Does.store (i := 5) rfl rfl rfl sz3 rfl rfl (by first | exact Nat.le_of_ble_eq_true rfl | decide | omega) rfl rfl) ?_
      rintro _ _ ⟨rfl, rfl⟩
      refine roK ?_
      refine TA.tk 16 131071 rfl rfl rfl (Val.fieldAddr rfl fl26_6 sz3 rfl) ?_
      refine TA.one 17 (by kernel_rfl) ?_
      first
        | refine TO.dz 262143 none rfl rfl rfl rfl (Does.store (i := 0) rfl rfl rfl sz3 rfl rfl (by first | exact Nat.le_of_ble_eq_true rfl | decide | omega) rfl rfl) ?_
        | refine TO.dz 262143 none rfl rfl rfl rfl (Does.store (i := 1) rfl rfl rfl sz3 rfl rfl (by first | exact Nat.le_of_ble_eq_true rfl | decide | omega) rfl rfl) ?_
        | refine TO.dz 262143 none rfl rfl rfl rfl (Does.store (i := 2) rfl rfl rfl sz3 rfl rfl (by first | exact Nat.le_of_ble_eq_true rfl | decide | omega) rfl rfl) ?_
        | refine TO.dz 262143 none rfl rfl rfl rfl (Does.store (i := 3) rfl rfl rfl sz3 rfl rfl (by first | exact Nat.le_of_ble_eq_true rfl | decide | omega) rfl rfl) ?_
        | refine TO.dz 262143 none rfl rfl rfl rfl (Does.store (i := 4) rfl rfl rfl sz3 rfl rfl (by first | exact Nat.le_of_ble_eq_true rfl | decide | omega) rfl rfl) ?_
        | refine TO.dz 262143 none rfl rfl rfl rfl (Does.store (i := 5) rfl rfl rfl sz3 rfl rfl (by first | exact Nat.le_of_ble_eq_true rfl | decide | omega) rfl rfl) ?_
      rintro _ _ ⟨rfl, rfl⟩
      refine roK ?_
      refine TA.done (by kernel_rfl) ?_
      refine AtX.then ?_
      refine TC.env (E' := [(2, _), (3, _), (4, _)]) (Sub.cons rfl (Sub.cons rfl (Sub.cons rfl (Sub.nil _)))) ?_
      refine TC.seq ?_
      refine TC.heap (M' := (b3, .cells #[.int .i64 (3 * a0 + 1 + a1), .int .i64 (a0), .int .i64 (1 + a2), .int .i64 (2 * a0 + 1 + a3), .int .i64 (1 + a4), .int .i64 (1 + a5), .int .i64 (1 + a6), .int .i64 (1000), .int .i64 (0), .int .i64 (0), .int .i64 (0), .int .i64 (100), .int .i64 (1), .int .i64 (100), .int .i64 (0), .int .i64 (3), .int .i64 (4), .int .i64 (100), .int .i64 (4), .int .i64 (50), .int .i64 (2), .int .i64 (100), .int .i64 (3), .int .i64 (4), .int .i64 (256), .int .u64 (1)] 26 (0, 0)) :: (b4, .cells #[.int .i64 q0, .int .i64 q1, .int .i64 q2, .int .i64 q3, .int .i64 q4, .int .i64 q5, .int .i64 q6, .int .i64 q7, .int .i64 q8, .int .i64 q9, .int .i64 q10, .int .i64 q11, .int .i64 q12, .int .i64 q13, .int .i64 q14, .int .i64 q15, .int .i64 q16, .int .i64 q17, .int .i64 q18, .int .i64 q19] 83 (0, 0)) :: (b1, .cells #[.int .i64 (0), .int .i64 (0), .int .i64 (0), .int .i64 (0), .int .i64 (0), .int .i64 (0), .int .i64 (0), .int .i64 (0), .int .i64 (0), .int .i64 (0), .int .i64 (0), .int .i64 (0), .int .i64 (0), .int .i64 (0), .int .i64 (0), .int .i64 (0), .int .i64 (0), .int .i64 (0), .int .i64 (0), .int .i64 (0), .int .i64 (0), .int .i64 (0), .int .i64 (0), .int .i64 (0), .int .i64 (0), .int .u64 (0)] 26 (0, 0)) :: M) (fun w h => h) ?_
      refine TC.region ?_
      refine TL.val rfl rfl (Nat.le_of_ble_eq_true rfl) (Val.fieldAddr rfl fl26_7 sz23 rfl) ?_
      refine TL.val rfl rfl (Nat.le_of_ble_eq_true rfl) (Val.indexAddrA (i := 1) rfl rfl ar23 sz2 rfl (by first | decide | omega) rfl) ?_
      first
        | refine TL.does none rfl rfl rfl (Does.store (i := 0) rfl rfl rfl sz2 rfl rfl (by first | exact Nat.le_of_ble_eq_true rfl | decide | omega) rfl rfl) ?_
        | refine TL.does none rfl rfl rfl (Does.store (i := 1) rfl rfl rfl sz2 rfl rfl (by first | exact Nat.le_of_ble_eq_true rfl | decide | omega) rfl rfl) ?_
        | refine TL.does none rfl rfl rfl (Does.store (i := 2) rfl rfl rfl sz2 rfl rfl (by first | exact Nat.le_of_ble_eq_true rfl | decide | omega) rfl rfl) ?_
        | refine TL.does none rfl rfl rfl (Does.store (i := 3) rfl rfl rfl sz2 rfl rfl (by first | exact Nat.le_of_ble_eq_true rfl | decide | omega) rfl rfl) ?_
        | refine TL.does none rfl rfl rfl (Does.store (i := 4) rfl rfl rfl sz2 rfl rfl (by first | exact Nat.le_of_ble_eq_true rfl | decide | omega) rfl rfl) ?_
        | refine TL.does none rfl rfl rfl (Does.store (i := 5) rfl rfl rfl sz2 rfl rfl (by first | exact Nat.le_of_ble_eq_true rfl | decide | omega) rfl rfl) ?_
      rintro _ _ ⟨rfl, rfl⟩
      refine TL.nil ?_
      refine AtX.then ?_
      refine TC.env (E' := [(2, _), (3, _), (4, _)]) (Sub.cons rfl (Sub.cons rfl (Sub.cons rfl (Sub.nil _)))) ?_
      refine TC.seq ?_
      refine TC.seq ?_
      refine TC.region ?_
      refine TL.val rfl rfl (Nat.le_of_ble_eq_true rfl) (Val.assign rfl) ?_
      refine TL.nil ?_
      refine AtX.then ?_
      refine TC.env (E' := [(2, _), (3, _), (4, _), (6, _)]) (Sub.cons rfl (Sub.cons rfl (Sub.cons rfl (Sub.cons rfl (Sub.nil _))))) ?_
      refine TC.block ?_
      refine TC.loop (ι := Nat) (fun i => [(2, .pointer (some ⟨b1, 0, none⟩)), (3, .pointer (some ⟨b3, 0, none⟩)), (4, .pointer (some ⟨b4, 0, none⟩)), (6, .int .i64 (i : Nat))]) (fun i => (b3, .cells #[.int .i64 (3 * a0 + 1 + a1), .int .i64 (a0), .int .i64 (1 + a2), .int .i64 (2 * a0 + 1 + a3), .int .i64 (1 + a4), .int .i64 (1 + a5), .int .i64 (1 + a6), .int .i64 (if 0 < i then 1 + a7 else 1000), .int .i64 (if 1 < i then 1 + a8 else 0), .int .i64 (0), .int .i64 (0), .int .i64 (100), .int .i64 (1), .int .i64 (100), .int .i64 (0), .int .i64 (3), .int .i64 (4), .int .i64 (100), .int .i64 (4), .int .i64 (50), .int .i64 (2), .int .i64 (100), .int .i64 (3), .int .i64 (4), .int .i64 (256), .int .u64 (1)] 26 (0, 0)) :: (b4, .cells #[.int .i64 q0, .int .i64 q1, .int .i64 q2, .int .i64 q3, .int .i64 q4, .int .i64 q5, .int .i64 q6, .int .i64 q7, .int .i64 q8, .int .i64 q9, .int .i64 q10, .int .i64 q11, .int .i64 q12, .int .i64 q13, .int .i64 q14, .int .i64 q15, .int .i64 q16, .int .i64 q17, .int .i64 q18, .int .i64 q19] 83 (0, 0)) :: (b1, .cells #[.int .i64 (0), .int .i64 (0), .int .i64 (0), .int .i64 (0), .int .i64 (0), .int .i64 (0), .int .i64 (0), .int .i64 (0), .int .i64 (0), .int .i64 (0), .int .i64 (0), .int .i64 (0), .int .i64 (0), .int .i64 (0), .int .i64 (0), .int .i64 (0), .int .i64 (0), .int .i64 (0), .int .i64 (0), .int .i64 (0), .int .i64 (0), .int .i64 (0), .int .i64 (0), .int .i64 (0), .int .i64 (0), .int .u64 (0)] 26 (0, 0)) :: M) (fun i => (i : Int) ≤ 1 + a2) (fun i => 2 - i) 0 ?_ (Sub.cons rfl (Sub.cons rfl (Sub.cons rfl (Sub.cons rfl (Sub.nil _))))) (fun _ h => h) ?_
      · show ((0 : Nat) : Int) ≤ 1 + a2; omega
      intro i hi
      refine TC.seq ?_
      refine TC.seq ?_
      refine TC.region ?_
      refine TL.val rfl rfl (Nat.le_of_ble_eq_true rfl) (Val.move rfl) ?_
      refine TL.val rfl rfl (Nat.le_of_ble_eq_true rfl) (Val.fieldAddr rfl fl26_2 sz3 rfl) ?_
      first
        | refine TL.val rfl rfl (Nat.le_of_ble_eq_true rfl) (Val.load 0 rfl ag3 rfl rfl) ?_
        | refine TL.val rfl rfl (Nat.le_of_ble_eq_true rfl) (Val.load 1 rfl ag3 rfl rfl) ?_
        | refine TL.val rfl rfl (Nat.le_of_ble_eq_true rfl) (Val.load 2 rfl ag3 rfl rfl) ?_
        | refine TL.val rfl rfl (Nat.le_of_ble_eq_true rfl) (Val.load 3 rfl ag3 rfl rfl) ?_
        | refine TL.val rfl rfl (Nat.le_of_ble_eq_true rfl) (Val.load 4 rfl ag3 rfl rfl) ?_
        | refine TL.val rfl rfl (Nat.le_of_ble_eq_true rfl) (Val.load 5 rfl ag3 rfl rfl) ?_
      refine TL.val rfl rfl (Nat.le_of_ble_eq_true rfl) (Val.lss rfl rfl) ?_
      refine TL.nil ?_
      refine AtX.then ?_
      first | refine TC.condP rfl (fun c3 => ?_) (fun c3 => ?_) | refine TC.condN rfl (fun c3 => ?_) (fun c3 => ?_) | refine TC.condB rfl (fun c3 => ?_) (fun c3 => ?_) | refine TC.cond rfl (fun c3 => ?_) (fun c3 => ?_)
      · skip
        refine TC.skip ?_
        refine AtX.then ?_
        refine TC.seq ?_
        refine TC.block ?_
        have hi01 : i = 0 ∨ i = 1 := by omega
        refine TC.region ?_
        refine TL.val rfl rfl (Nat.le_of_ble_eq_true rfl) (Val.move rfl) ?_
        refine TL.val rfl rfl (Nat.le_of_ble_eq_true rfl) (Val.move rfl) ?_
        refine TL.val rfl rfl (Nat.le_of_ble_eq_true rfl) (Val.add rfl rfl (r := ((7 + i : Nat) : Int)) (by rw [w_i64 (by omega) (by omega)]; push_cast; rfl)) ?_
        refine TL.val rfl rfl (Nat.le_of_ble_eq_true rfl) (Val.indexAddrA (i := 7 + i) (r := 7 + i) rfl rfl ar83 sz3 rfl (by omega) (by omega)) ?_
        refine TL.val rfl rfl (Nat.le_of_ble_eq_true rfl) (Val.load 1 rfl ag3 rfl (v := .int .i64 (if i = 0 then q7 else q8)) (by rcases hi01 with rfl | rfl <;> rfl)) ?_
        refine TL.val rfl rfl (Nat.le_of_ble_eq_true rfl) (Val.rem rfl rfl (by decide) (r := if i = 0 then a7 else a8) (by rcases hi01 with rfl | rfl <;> assumption)) ?_
        refine TL.val rfl rfl (Nat.le_of_ble_eq_true rfl) (Val.add rfl rfl (r := 1 + (if i = 0 then a7 else a8)) (w_i64 (by split <;> omega) (by split <;> omega))) ?_
        refine TL.val rfl rfl (Nat.le_of_ble_eq_true rfl) (Val.fieldAddr rfl fl26_7 sz23 rfl) ?_
        refine TL.val rfl rfl (Nat.le_of_ble_eq_true rfl) (Val.indexAddrA (i := i) (r := 7 + i) rfl rfl ar23 sz2 rfl (by omega) (by omega)) ?_
        refine TL.does none rfl rfl rfl (Does.store (i := 0) (cs' := #[.int .i64 (3 * a0 + 1 + a1), .int .i64 (a0), .int .i64 (1 + a2), .int .i64 (2 * a0 + 1 + a3), .int .i64 (1 + a4), .int .i64 (1 + a5), .int .i64 (1 + a6), .int .i64 (if 0 < i + 1 then 1 + a7 else 1000), .int .i64 (if 1 < i + 1 then 1 + a8 else 0), .int .i64 (0), .int .i64 (0), .int .i64 (100), .int .i64 (1), .int .i64 (100), .int .i64 (0), .int .i64 (3), .int .i64 (4), .int .i64 (100), .int .i64 (4), .int .i64 (50), .int .i64 (2), .int .i64 (100), .int .i64 (3), .int .i64 (4), .int .i64 (256), .int .u64 (1)]) (M' := (b3, .cells #[.int .i64 (3 * a0 + 1 + a1), .int .i64 (a0), .int .i64 (1 + a2), .int .i64 (2 * a0 + 1 + a3), .int .i64 (1 + a4), .int .i64 (1 + a5), .int .i64 (1 + a6), .int .i64 (if 0 < i + 1 then 1 + a7 else 1000), .int .i64 (if 1 < i + 1 then 1 + a8 else 0), .int .i64 (0), .int .i64 (0), .int .i64 (100), .int .i64 (1), .int .i64 (100), .int .i64 (0), .int .i64 (3), .int .i64 (4), .int .i64 (100), .int .i64 (4), .int .i64 (50), .int .i64 (2), .int .i64 (100), .int .i64 (3), .int .i64 (4), .int .i64 (256), .int .u64 (1)] 26 (0, 0)) :: (b4, .cells #[.int .i64 q0, .int .i64 q1, .int .i64 q2, .int .i64 q3, .int .i64 q4, .int .i64 q5, .int .i64 q6, .int .i64 q7, .int .i64 q8, .int .i64 q9, .int .i64 q10, .int .i64 q11, .int .i64 q12, .int .i64 q13, .int .i64 q14, .int .i64 q15, .int .i64 q16, .int .i64 q17, .int .i64 q18, .int .i64 q19] 83 (0, 0)) :: (b1, .cells #[.int .i64 (0), .int .i64 (0), .int .i64 (0), .int .i64 (0), .int .i64 (0), .int .i64 (0), .int .i64 (0), .int .i64 (0), .int .i64 (0), .int .i64 (0), .int .i64 (0), .int .i64 (0), .int .i64 (0), .int .i64 (0), .int .i64 (0), .int .i64 (0), .int .i64 (0), .int .i64 (0), .int .i64 (0), .int .i64 (0), .int .i64 (0), .int .i64 (0), .int .i64 (0), .int .i64 (0), .int .i64 (0), .int .u64 (0)] 26 (0, 0)) :: M) rfl rfl rfl sz2 rfl rfl (by show 7 + i + 1 ≤ 26; omega) (by rcases hi01 with rfl | rfl <;> rfl) rfl) ?_
        rintro _ _ ⟨rfl, rfl⟩
        refine TL.nil ?_
        refine AtX.blk ?_
        refine AtX.then ?_
        refine TC.region ?_
        refine TL.val rfl rfl (Nat.le_of_ble_eq_true rfl) (Val.move rfl) ?_
        first
          | refine TL.val rfl rfl (Nat.le_of_ble_eq_true rfl) (Val.add rfl rfl (w_i64 (by omega) (by omega))) ?_
          | refine TL.val rfl rfl (Nat.le_of_ble_eq_true rfl) (Val.add rfl rfl rfl) ?_
        refine TL.val rfl rfl (Nat.le_of_ble_eq_true rfl) (Val.assign rfl) ?_
        refine TL.nil ?_
        refine AtX.round (i + 1) ?_ ?_ (Sub.cons rfl (Sub.cons rfl (Sub.cons rfl (Sub.cons rfl (Sub.nil _))))) (fun _ h => h)
        · show ((i + 1 : Nat) : Int) ≤ 1 + a2; omega
        · omega
      · skip
        refine TC.exit ?_
        refine AtX.seqX ?_
        refine AtX.seqX ?_
        refine AtX.hit ?_
        refine AtX.then ?_
        refine TC.env (E' := [(2, _), (3, _), (4, _)]) (Sub.cons rfl (Sub.cons rfl (Sub.cons rfl (Sub.nil _)))) ?_
        refine TC.seq ?_
        obtain ⟨T0, hT0⟩ : ∃ T0 : Int, T0 = if 0 < i then 1 + a7 else 1000 := ⟨_, rfl⟩
        obtain ⟨T1, hT1⟩ : ∃ T1 : Int, T1 = if 1 < i then 1 + a8 else 0 := ⟨_, rfl⟩
        rw [← hT0, ← hT1]
        have hT0b : 1 ≤ T0 ∧ T0 ≤ 2000 := by rw [hT0]; split <;> omega
        have hT1b : (1 < 1 + a2 → 1 ≤ T1 ∧ T1 ≤ 2000) ∧ (1 + a2 ≤ 1 → T1 = 0) := by rw [hT1]; split <;> omega
        refine TC.region ?_
        refine TL.val rfl rfl (Nat.le_of_ble_eq_true rfl) (Val.indexAddrA (i := 9) rfl rfl ar83 sz3 rfl (by first | decide | omega) rfl) ?_
        first
          | refine TL.val rfl rfl (Nat.le_of_ble_eq_true rfl) (Val.load 0 rfl ag3 rfl rfl) ?_
          | refine TL.val rfl rfl (Nat.le_of_ble_eq_true rfl) (Val.load 1 rfl ag3 rfl rfl) ?_
          | refine TL.val rfl rfl (Nat.le_of_ble_eq_true rfl) (Val.load 2 rfl ag3 rfl rfl) ?_
          | refine TL.val rfl rfl (Nat.le_of_ble_eq_true rfl) (Val.load 3 rfl ag3 rfl rfl) ?_
          | refine TL.val rfl rfl (Nat.le_of_ble_eq_true rfl) (Val.load 4 rfl ag3 rfl rfl) ?_
          | refine TL.val rfl rfl (Nat.le_of_ble_eq_true rfl) (Val.load 5 rfl ag3 rfl rfl) ?_
        refine TL.val rfl rfl (Nat.le_of_ble_eq_true rfl) (Val.rem rfl rfl (by first | decide | omega) (r := a9) ha9) ?_
        refine TL.val rfl rfl (Nat.le_of_ble_eq_true rfl) (Val.fieldAddr rfl fl26_8 sz3 rfl) ?_
        first
          | refine TL.does none rfl rfl rfl (Does.store (i := 0) rfl rfl rfl sz3 rfl rfl (by first | exact Nat.le_of_ble_eq_true rfl | decide | omega) rfl rfl) ?_
          | refine TL.does none rfl rfl rfl (Does.store (i := 1) rfl rfl rfl sz3 rfl rfl (by first | exact Nat.le_of_ble_eq_true rfl | decide | omega) rfl rfl) ?_
          | refine TL.does none rfl rfl rfl (Does.store (i := 2) rfl rfl rfl sz3 rfl rfl (by first | exact Nat.le_of_ble_eq_true rfl | decide | omega) rfl rfl) ?_
          | refine TL.does none rfl rfl rfl (Does.store (i := 3) rfl rfl rfl sz3 rfl rfl (by first | exact Nat.le_of_ble_eq_true rfl | decide | omega) rfl rfl) ?_
          | refine TL.does none rfl rfl rfl (Does.store (i := 4) rfl rfl rfl sz3 rfl rfl (by first | exact Nat.le_of_ble_eq_true rfl | decide | omega) rfl rfl) ?_
          | refine TL.does none rfl rfl rfl (Does.store (i := 5) rfl rfl rfl sz3 rfl rfl (by first | exact Nat.le_of_ble_eq_true rfl | decide | omega) rfl rfl) ?_
        rintro _ _ ⟨rfl, rfl⟩
        refine TL.nil ?_
        refine AtX.then ?_
        refine TC.env (E' := [(2, _), (3, _), (4, _)]) (Sub.cons rfl (Sub.cons rfl (Sub.cons rfl (Sub.nil _)))) ?_
        refine TC.seq ?_
        refine TC.heap (M' := (b3, .cells #[.int .i64 (3 * a0 + 1 + a1), .int .i64 (a0), .int .i64 (1 + a2), .int .i64 (2 * a0 + 1 + a3), .int .i64 (1 + a4), .int .i64 (1 + a5), .int .i64 (1 + a6), .int .i64 (T0), .int .i64 (T1), .int .i64 (0), .int .i64 (0), .int .i64 (a9), .int .i64 (1), .int .i64 (100), .int .i64 (0), .int .i64 (3), .int .i64 (4), .int .i64 (100), .int .i64 (4), .int .i64 (50), .int .i64 (2), .int .i64 (100), .int .i64 (3), .int .i64 (4), .int .i64 (256), .int .u64 (1)] 26 (0, 0)) :: (b4, .cells #[.int .i64 q0, .int .i64 q1, .int .i64 q2, .int .i64 q3, .int .i64 q4, .int .i64 q5, .int .i64 q6, .int .i64 q7, .int .i64 q8, .int .i64 q9, .int .i64 q10, .int .i64 q11, .int .i64 q12, .int .i64 q13, .int .i64 q14, .int .i64 q15, .int .i64 q16, .int .i64 q17, .int .i64 q18, .int .i64 q19] 83 (0, 0)) :: (b1, .cells #[.int .i64 (0), .int .i64 (0), .int .i64 (0), .int .i64 (0), .int .i64 (0), .int .i64 (0), .int .i64 (0), .int .i64 (0), .int .i64 (0), .int .i64 (0), .int .i64 (0), .int .i64 (0), .int .i64 (0), .int .i64 (0), .int .i64 (0), .int .i64 (0), .int .i64 (0), .int .i64 (0), .int .i64 (0), .int .i64 (0), .int .i64 (0), .int .i64 (0), .int .i64 (0), .int .i64 (0), .int .i64 (0), .int .u64 (0)] 26 (0, 0)) :: M) (fun w h => h) ?_
        refine TC.region ?_
        refine TL.val rfl rfl (Nat.le_of_ble_eq_true rfl) (Val.indexAddrA (i := 10) rfl rfl ar83 sz3 rfl (by first | decide | omega) rfl) ?_
        first
          | refine TL.val rfl rfl (Nat.le_of_ble_eq_true rfl) (Val.load 0 rfl ag3 rfl rfl) ?_
          | refine TL.val rfl rfl (Nat.le_of_ble_eq_true rfl) (Val.load 1 rfl ag3 rfl rfl) ?_
          | refine TL.val rfl rfl (Nat.le_of_ble_eq_true rfl) (Val.load 2 rfl ag3 rfl rfl) ?_
          | refine TL.val rfl rfl (Nat.le_of_ble_eq_true rfl) (Val.load 3 rfl ag3 rfl rfl) ?_
          | refine TL.val rfl rfl (Nat.le_of_ble_eq_true rfl) (Val.load 4 rfl ag3 rfl rfl) ?_
          | refine TL.val rfl rfl (Nat.le_of_ble_eq_true rfl) (Val.load 5 rfl ag3 rfl rfl) ?_
        refine TL.val rfl rfl (Nat.le_of_ble_eq_true rfl) (Val.rem rfl rfl (by first | decide | omega) (r := a10) ha10) ?_
        first
          | refine TL.val rfl rfl (Nat.le_of_ble_eq_true rfl) (Val.add rfl rfl (w_i64 (by omega) (by omega))) ?_
          | refine TL.val rfl rfl (Nat.le_of_ble_eq_true rfl) (Val.add rfl rfl rfl) ?_
        refine TL.val rfl rfl (Nat.le_of_ble_eq_true rfl) (Val.fieldAddr rfl fl26_9 sz3 rfl) ?_
        first
          | refine TL.does none rfl rfl rfl (Does.store (i := 0) rfl rfl rfl sz3 rfl rfl (by first | exact Nat.le_of_ble_eq_true rfl | decide | omega) rfl rfl) ?_
          | refine TL.does none rfl rfl rfl (Does.store (i := 1) rfl rfl rfl sz3 rfl rfl (by first | exact Nat.le_of_ble_eq_true rfl | decide | omega) rfl rfl) ?_
          | refine TL.does none rfl rfl rfl (Does.store (i := 2) rfl rfl rfl sz3 rfl rfl (by first | exact Nat.le_of_ble_eq_true rfl | decide | omega) rfl rfl) ?_
          | refine TL.does none rfl rfl rfl (Does.store (i := 3) rfl rfl rfl sz3 rfl rfl (by first | exact Nat.le_of_ble_eq_true rfl | decide | omega) rfl rfl) ?_
          | refine TL.does none rfl rfl rfl (Does.store (i := 4) rfl rfl rfl sz3 rfl rfl (by first | exact Nat.le_of_ble_eq_true rfl | decide | omega) rfl rfl) ?_
          | refine TL.does none rfl rfl rfl (Does.store (i := 5) rfl rfl rfl sz3 rfl rfl (by first | exact Nat.le_of_ble_eq_true rfl | decide | omega) rfl rfl) ?_
        rintro _ _ ⟨rfl, rfl⟩
        refine TL.nil ?_
        refine AtX.then ?_
        refine TC.env (E' := [(2, _), (3, _), (4, _)]) (Sub.cons rfl (Sub.cons rfl (Sub.cons rfl (Sub.nil _)))) ?_
        refine TC.seq ?_
        refine TC.heap (M' := (b3, .cells #[.int .i64 (3 * a0 + 1 + a1), .int .i64 (a0), .int .i64 (1 + a2), .int .i64 (2 * a0 + 1 + a3), .int .i64 (1 + a4), .int .i64 (1 + a5), .int .i64 (1 + a6), .int .i64 (T0), .int .i64 (T1), .int .i64 (0), .int .i64 (0), .int .i64 (a9), .int .i64 (1 + a10), .int .i64 (100), .int .i64 (0), .int .i64 (3), .int .i64 (4), .int .i64 (100), .int .i64 (4), .int .i64 (50), .int .i64 (2), .int .i64 (100), .int .i64 (3), .int .i64 (4), .int .i64 (256), .int .u64 (1)] 26 (0, 0)) :: (b4, .cells #[.int .i64 q0, .int .i64 q1, .int .i64 q2, .int .i64 q3, .int .i64 q4, .int .i64 q5, .int .i64 q6, .int .i64 q7, .int .i64 q8, .int .i64 q9, .int .i64 q10, .int .i64 q11, .int .i64 q12, .int .i64 q13, .int .i64 q14, .int .i64 q15, .int .i64 q16, .int .i64 q17, .int .i64 q18, .int .i64 q19] 83 (0, 0)) :: (b1, .cells #[.int .i64 (0), .int .i64 (0), .int .i64 (0), .int .i64 (0), .int .i64 (0), .int .i64 (0), .int .i64 (0), .int .i64 (0), .int .i64 (0), .int .i64 (0), .int .i64 (0), .int .i64 (0), .int .i64 (0), .int .i64 (0), .int .i64 (0), .int .i64 (0), .int .i64 (0), .int .i64 (0), .int .i64 (0), .int .i64 (0), .int .i64 (0), .int .i64 (0), .int .i64 (0), .int .i64 (0), .int .i64 (0), .int .u64 (0)] 26 (0, 0)) :: M) (fun w h => h) ?_
        refine TC.region ?_
        refine TL.val rfl rfl (Nat.le_of_ble_eq_true rfl) (Val.fieldAddr rfl fl26_9 sz3 rfl) ?_
        first
          | refine TL.val rfl rfl (Nat.le_of_ble_eq_true rfl) (Val.load 0 rfl ag3 rfl rfl) ?_
          | refine TL.val rfl rfl (Nat.le_of_ble_eq_true rfl) (Val.load 1 rfl ag3 rfl rfl) ?_
          | refine TL.val rfl rfl (Nat.le_of_ble_eq_true rfl) (Val.load 2 rfl ag3 rfl rfl) ?_
          | refine TL.val rfl rfl (Nat.le_of_ble_eq_true rfl) (Val.load 3 rfl ag3 rfl rfl) ?_
          | refine TL.val rfl rfl (Nat.le_of_ble_eq_true rfl) (Val.load 4 rfl ag3 rfl rfl) ?_
          | refine TL.val rfl rfl (Nat.le_of_ble_eq_true rfl) (Val.load 5 rfl ag3 rfl rfl) ?_
        refine TL.val rfl rfl (Nat.le_of_ble_eq_true rfl) (Val.indexAddrA (i := 10) rfl rfl ar83 sz3 rfl (by first | decide | omega) rfl) ?_
        first
          | refine TL.val rfl rfl (Nat.le_of_ble_eq_true rfl) (Val.load 0 rfl ag3 rfl rfl) ?_
          | refine TL.val rfl rfl (Nat.le_of_ble_eq_true rfl) (Val.load 1 rfl ag3 rfl rfl) ?_
          | refine TL.val rfl rfl (Nat.le_of_ble_eq_true rfl) (Val.load 2 rfl ag3 rfl rfl) ?_
          | refine TL.val rfl rfl (Nat.le_of_ble_eq_true rfl) (Val.load 3 rfl ag3 rfl rfl) ?_
          | refine TL.val rfl rfl (Nat.le_of_ble_eq_true rfl) (Val.load 4 rfl ag3 rfl rfl) ?_
          | refine TL.val rfl rfl (Nat.le_of_ble_eq_true rfl) (Val.load 5 rfl ag3 rfl rfl) ?_
        refine TL.val rfl rfl (Nat.le_of_ble_eq_true rfl) (Val.quo rfl rfl (by decide) (r := b10) (by rw [hb10]; exact w_i64 (by omega) (by omega))) ?_
        refine TL.val rfl rfl (Nat.le_of_ble_eq_true rfl) (Val.rem rfl rfl (by first | decide | omega) (r := c10) hc10) ?_
        first
          | refine TL.val rfl rfl (Nat.le_of_ble_eq_true rfl) (Val.add rfl rfl (w_i64 (by omega) (by omega))) ?_
          | refine TL.val rfl rfl (Nat.le_of_ble_eq_true rfl) (Val.add rfl rfl rfl) ?_
        refine TL.val rfl rfl (Nat.le_of_ble_eq_true rfl) (Val.fieldAddr rfl fl26_10 sz3 rfl) ?_
        first
          | refine TL.does none rfl rfl rfl (Does.store (i := 0) rfl rfl rfl sz3 rfl rfl (by first | exact Nat.le_of_ble_eq_true rfl | decide | omega) rfl rfl) ?_
          | refine TL.does none rfl rfl rfl (Does.store (i := 1) rfl rfl rfl sz3 rfl rfl (by first | exact Nat.le_of_ble_eq_true rfl | decide | omega) rfl rfl) ?_
          | refine TL.does none rfl rfl rfl (Does.store (i := 2) rfl rfl rfl sz3 rfl rfl (by first | exact Nat.le_of_ble_eq_true rfl | decide | omega) rfl rfl) ?_
          | refine TL.does none rfl rfl rfl (Does.store (i := 3) rfl rfl rfl sz3 rfl rfl (by first | exact Nat.le_of_ble_eq_true rfl | decide | omega) rfl rfl) ?_
          | refine TL.does none rfl rfl rfl (Does.store (i := 4) rfl rfl rfl sz3 rfl rfl (by first | exact Nat.le_of_ble_eq_true rfl | decide | omega) rfl rfl) ?_
          | refine TL.does none rfl rfl rfl (Does.store (i := 5) rfl rfl rfl sz3 rfl rfl (by first | exact Nat.le_of_ble_eq_true rfl | decide | omega) rfl rfl) ?_
        rintro _ _ ⟨rfl, rfl⟩
        refine TL.nil ?_
        refine AtX.then ?_
        refine TC.env (E' := [(2, _), (3, _), (4, _)]) (Sub.cons rfl (Sub.cons rfl (Sub.cons rfl (Sub.nil _)))) ?_
        refine TC.seq ?_
        refine TC.heap (M' := (b3, .cells #[.int .i64 (3 * a0 + 1 + a1), .int .i64 (a0), .int .i64 (1 + a2), .int .i64 (2 * a0 + 1 + a3), .int .i64 (1 + a4), .int .i64 (1 + a5), .int .i64 (1 + a6), .int .i64 (T0), .int .i64 (T1), .int .i64 (0), .int .i64 (0), .int .i64 (a9), .int .i64 (1 + a10), .int .i64 (1 + a10 + c10), .int .i64 (0), .int .i64 (3), .int .i64 (4), .int .i64 (100), .int .i64 (4), .int .i64 (50), .int .i64 (2), .int .i64 (100), .int .i64 (3), .int .i64 (4), .int .i64 (256), .int .u64 (1)] 26 (0, 0)) :: (b4, .cells #[.int .i64 q0, .int .i64 q1, .int .i64 q2, .int .i64 q3, .int .i64 q4, .int .i64 q5, .int .i64 q6, .int .i64 q7, .int .i64 q8, .int .i64 q9, .int .i64 q10, .int .i64 q11, .int .i64 q12, .int .i64 q13, .int .i64 q14, .int .i64 q15, .int .i64 q16, .int .i64 q17, .int .i64 q18, .int .i64 q19] 83 (0, 0)) :: (b1, .cells #[.int .i64 (0), .int .i64 (0), .int .i64 (0), .int .i64 (0), .int .i64 (0), .int .i64 (0), .int .i64 (0), .int .i64 (0), .int .i64 (0), .int .i64 (0), .int .i64 (0), .int .i64 (0), .int .i64 (0), .int .i64 (0), .int .i64 (0), .int .i64 (0), .int .i64 (0), .int .i64 (0), .int .i64 (0), .int .i64 (0), .int .i64 (0), .int .i64 (0), .int .i64 (0), .int .i64 (0), .int .i64 (0), .int .u64 (0)] 26 (0, 0)) :: M) (fun w h => h) ?_
        refine TC.drawL ((b4, .cells #[.int .i64 q0, .int .i64 q1, .int .i64 q2, .int .i64 q3, .int .i64 q4, .int .i64 q5, .int .i64 q6, .int .i64 q7, .int .i64 q8, .int .i64 q9, .int .i64 q10, .int .i64 q11, .int .i64 q12, .int .i64 q13, .int .i64 q14, .int .i64 q15, .int .i64 q16, .int .i64 q17, .int .i64 q18, .int .i64 q19] 83 (0, 0)) :: (b1, .cells #[.int .i64 (0), .int .i64 (0), .int .i64 (0), .int .i64 (0), .int .i64 (0), .int .i64 (0), .int .i64 (0), .int .i64 (0), .int .i64 (0), .int .i64 (0), .int .i64 (0), .int .i64 (0), .int .i64 (0), .int .i64 (0), .int .i64 (0), .int .i64 (0), .int .i64 (0), .int .i64 (0), .int .i64 (0), .int .i64 (0), .int .i64 (0), .int .i64 (0), .int .i64 (0), .int .i64 (0), .int .i64 (0), .int .u64 (0)] 26 (0, 0)) :: M) mixed 10 ?_
        refine TA.tk 0 1 rfl rfl rfl (Val.indexAddrA (i := 11) rfl rfl ar83 sz3 rfl (by first | decide | omega) rfl) ?_
        first
          | refine TA.tk 1 3 rfl rfl rfl (Val.load 0 rfl ag3 rfl rfl) ?_
          | refine TA.tk 1 3 rfl rfl rfl (Val.load 1 rfl ag3 rfl rfl) ?_
          | refine TA.tk 1 3 rfl rfl rfl (Val.load 2 rfl ag3 rfl rfl) ?_
          | refine TA.tk 1 3 rfl rfl rfl (Val.load 3 rfl ag3 rfl rfl) ?_
          | refine TA.tk 1 3 rfl rfl rfl (Val.load 4 rfl ag3 rfl rfl) ?_
          | refine TA.tk 1 3 rfl rfl rfl (Val.load 5 rfl ag3 rfl rfl) ?_
        refine TA.tk 2 7 rfl rfl rfl (Val.rem rfl rfl (by first | decide | omega) (r := a11) ha11) ?_
        refine TA.tk 3 15 rfl rfl rfl (Val.indexAddrA (i := 12) rfl rfl ar83 sz3 rfl (by first | decide | omega) rfl) ?_
        first
          | refine TA.tk 4 31 rfl rfl rfl (Val.load 0 rfl ag3 rfl rfl) ?_
          | refine TA.tk 4 31 rfl rfl rfl (Val.load 1 rfl ag3 rfl rfl) ?_
          | refine TA.tk 4 31 rfl rfl rfl (Val.load 2 rfl ag3 rfl rfl) ?_
          | refine TA.tk 4 31 rfl rfl rfl (Val.load 3 rfl ag3 rfl rfl) ?_
          | refine TA.tk 4 31 rfl rfl rfl (Val.load 4 rfl ag3 rfl rfl) ?_
          | refine TA.tk 4 31 rfl rfl rfl (Val.load 5 rfl ag3 rfl rfl) ?_
        refine TA.tk 5 63 rfl rfl rfl (Val.rem rfl rfl (by first | decide | omega) (r := a12) ha12) ?_
        refine TA.tk 6 127 rfl rfl rfl (Val.fieldAddr rfl fl26_11 sz3 rfl) ?_
        refine TA.one 7 (by kernel_rfl) ?_
        first
          | refine TO.dz 255 none rfl rfl rfl rfl (Does.store (i := 0) rfl rfl rfl sz3 rfl rfl (by first | exact Nat.le_of_ble_eq_true rfl | decide | omega) rfl rfl) ?_
          | refine TO.dz 255 none rfl rfl rfl rfl (Does.store (i := 1) rfl rfl rfl sz3 rfl rfl (by first | exact Nat.le_of_ble_eq_true rfl | decide | omega) rfl rfl) ?_
          | refine TO.dz 255 none rfl rfl rfl rfl (Does.store (i := 2) rfl rfl rfl sz3 rfl rfl (by first | exact Nat.le_of_ble_eq_true rfl | decide | omega) rfl rfl) ?_
          | refine TO.dz 255 none rfl rfl rfl rfl (Does.store (i := 3) rfl rfl rfl sz3 rfl rfl (by first | exact Nat.le_of_ble_eq_true rfl | decide | omega) rfl rfl) ?_
          | refine TO.dz 255 none rfl rfl rfl rfl (Does.store (i := 4) rfl rfl rfl sz3 rfl rfl (by first | exact Nat.le_of_ble_eq_true rfl | decide | omega) rfl rfl) ?_
          | refine TO.dz 255 none rfl rfl rfl rfl (Does.store (i := 5) rfl rfl rfl sz3 rfl rfl (by first | exact Nat.le_of_ble_eq_true rfl | decide | omega) rfl rfl) ?_
        rintro _ _ ⟨rfl, rfl⟩
        refine roK ?_
        refine TA.tk 8 511 rfl rfl rfl (Val.fieldAddr rfl fl26_12 sz3 rfl) ?_
        refine TA.one 9 (by kernel_rfl) ?_
        first
          | refine TO.dz 1023 none rfl rfl rfl rfl (Does.store (i := 0) rfl rfl rfl sz3 rfl rfl (by first | exact Nat.le_of_ble_eq_true rfl | decide | omega) rfl rfl) ?_
          | refine TO.dz 1023 none rfl rfl rfl rfl (Does.store (i := 1) rfl rfl rfl sz3 rfl rfl (by first | exact Nat.le_of_ble_eq_true rfl | decide | omega) rfl rfl) ?_
          | refine TO.dz 1023 none rfl rfl rfl rfl (Does.store (i := 2) rfl rfl rfl sz3 rfl rfl (by first | exact Nat.le_of_ble_eq_true rfl | decide | omega) rfl rfl) ?_
          | refine TO.dz 1023 none rfl rfl rfl rfl (Does.store (i := 3) rfl rfl rfl sz3 rfl rfl (by first | exact Nat.le_of_ble_eq_true rfl | decide | omega) rfl rfl) ?_
          | refine TO.dz 1023 none rfl rfl rfl rfl (Does.store (i := 4) rfl rfl rfl sz3 rfl rfl (by first | exact Nat.le_of_ble_eq_true rfl | decide | omega) rfl rfl) ?_
          | refine TO.dz 1023 none rfl rfl rfl rfl (Does.store (i := 5) rfl rfl rfl sz3 rfl rfl (by first | exact Nat.le_of_ble_eq_true rfl | decide | omega) rfl rfl) ?_
        rintro _ _ ⟨rfl, rfl⟩
        refine roK ?_
        refine TA.done (by kernel_rfl) ?_
        refine AtX.then ?_
        refine TC.env (E' := [(2, _), (3, _), (4, _)]) (Sub.cons rfl (Sub.cons rfl (Sub.cons rfl (Sub.nil _)))) ?_
        refine TC.seq ?_
        refine TC.heap (M' := (b3, .cells #[.int .i64 (3 * a0 + 1 + a1), .int .i64 (a0), .int .i64 (1 + a2), .int .i64 (2 * a0 + 1 + a3), .int .i64 (1 + a4), .int .i64 (1 + a5), .int .i64 (1 + a6), .int .i64 (T0), .int .i64 (T1), .int .i64 (0), .int .i64 (0), .int .i64 (a9), .int .i64 (1 + a10), .int .i64 (1 + a10 + c10), .int .i64 (a11), .int .i64 (a12), .int .i64 (4), .int .i64 (100), .int .i64 (4), .int .i64 (50), .int .i64 (2), .int .i64 (100), .int .i64 (3), .int .i64 (4), .int .i64 (256), .int .u64 (1)] 26 (0, 0)) :: (b4, .cells #[.int .i64 q0, .int .i64 q1, .int .i64 q2, .int .i64 q3, .int .i64 q4, .int .i64 q5, .int .i64 q6, .int .i64 q7, .int .i64 q8, .int .i64 q9, .int .i64 q10, .int .i64 q11, .int .i64 q12, .int .i64 q13, .int .i64 q14, .int .i64 q15, .int .i64 q16, .int .i64 q17, .int .i64 q18, .int .i64 q19] 83 (0, 0)) :: (b1, .cells #[.int .i64 (0), .int .i64 (0), .int .i64 (0), .int .i64 (0), .int .i64 (0), .int .i64 (0), .int .i64 (0), .int .i64 (0), .int .i64 (0), .int .i64 (0), .int .i64 (0), .int .i64 (0), .int .i64 (0), .int .i64 (0), .int .i64 (0), .int .i64 (0), .int .i64 (0), .int .i64 (0), .int .i64 (0), .int .i64 (0), .int .i64 (0), .int .i64 (0), .int .i64 (0), .int .i64 (0), .int .i64 (0), .int .u64 (0)] 26 (0, 0)) :: M) (fun w h => h) ?_
        refine TC.drawL ((b4, .cells #[.int .i64 q0, .int .i64 q1, .int .i64 q2, .int .i64 q3, .int .i64 q4, .int .i64 q5, .int .i64 q6, .int .i64 q7, .int .i64 q8, .int .i64 q9, .int .i64 q10, .int .i64 q11, .int .i64 q12, .int .i64 q13, .int .i64 q14, .int .i64 q15, .int .i64 q16, .int .i64 q17, .int .i64 q18, .int .i64 q19] 83 (0, 0)) :: (b1, .cells #[.int .i64 (0), .int .i64 (0), .int .i64 (0), .int .i64 (0), .int .i64 (0), .int .i64 (0), .int .i64 (0), .int .i64 (0), .int .i64 (0), .int .i64 (0), .int .i64 (0), .int .i64 (0), .int .i64 (0), .int .i64 (0), .int .i64 (0), .int .i64 (0), .int .i64 (0), .int .i64 (0), .int .i64 (0), .int .i64 (0), .int .i64 (0), .int .i64 (0), .int .i64 (0), .int .i64 (0), .int .i64 (0), .int .u64 (0)] 26 (0, 0)) :: M) mixed 13 ?_
        refine TA.tk 0 1 rfl rfl rfl (Val.indexAddrA (i := 13) rfl rfl ar83 sz3 rfl (by first | decide | omega) rfl) ?_
        first
          | refine TA.tk 1 3 rfl rfl rfl (Val.load 0 rfl ag3 rfl rfl) ?_
          | refine TA.tk 1 3 rfl rfl rfl (Val.load 1 rfl ag3 rfl rfl) ?_
          | refine TA.tk 1 3 rfl rfl rfl (Val.load 2 rfl ag3 rfl rfl) ?_
          | refine TA.tk 1 3 rfl rfl rfl (Val.load 3 rfl ag3 rfl rfl) ?_
          | refine TA.tk 1 3 rfl rfl rfl (Val.load 4 rfl ag3 rfl rfl) ?_
          | refine TA.tk 1 3 rfl rfl rfl (Val.load 5 rfl ag3 rfl rfl) ?_
        refine TA.tk 2 7 rfl rfl rfl (Val.rem rfl rfl (by first | decide | omega) (r := a13) ha13) ?_
        first
          | refine TA.tk 3 15 rfl rfl rfl (Val.add rfl rfl (w_i64 (by omega) (by omega))) ?_
          | refine TA.tk 3 15 rfl rfl rfl (Val.add rfl rfl rfl) ?_
        refine TA.tk 4 31 rfl rfl rfl (Val.indexAddrA (i := 13) rfl rfl ar83 sz3 rfl (by first | decide | omega) rfl) ?_
        first
          | refine TA.tk 5 63 rfl rfl rfl (Val.load 0 rfl ag3 rfl rfl) ?_
          | refine TA.tk 5 63 rfl rfl rfl (Val.load 1 rfl ag3 rfl rfl) ?_
          | refine TA.tk 5 63 rfl rfl rfl (Val.load 2 rfl ag3 rfl rfl) ?_
          | refine TA.tk 5 63 rfl rfl rfl (Val.load 3 rfl ag3 rfl rfl) ?_
          | refine TA.tk 5 63 rfl rfl rfl (Val.load 4 rfl ag3 rfl rfl) ?_
          | refine TA.tk 5 63 rfl rfl rfl (Val.load 5 rfl ag3 rfl rfl) ?_
        refine TA.tk 6 127 rfl rfl rfl (Val.quo rfl rfl (by decide) (r := b13) (by rw [hb13]; exact w_i64 (by omega) (by omega))) ?_
        refine TA.tk 7 255 rfl rfl rfl (Val.rem rfl rfl (by first | decide | omega) (r := c13) hc13) ?_
        first
          | refine TA.tk 8 511 rfl rfl rfl (Val.add rfl rfl (w_i64 (by omega) (by omega))) ?_
          | refine TA.tk 8 511 rfl rfl rfl (Val.add rfl rfl rfl) ?_
        refine TA.tk 9 1023 rfl rfl rfl (Val.fieldAddr rfl fl26_13 sz3 rfl) ?_
        refine TA.one 10 (by kernel_rfl) ?_
        first
          | refine TO.dz 2047 none rfl rfl rfl rfl (Does.store (i := 0) rfl rfl rfl sz3 rfl rfl (by first | exact Nat.le_of_ble_eq_true rfl | decide | omega) rfl rfl) ?_
          | refine TO.dz 2047 none rfl rfl rfl rfl (Does.store (i := 1) rfl rfl rfl sz3 rfl rfl (by first | exact Nat.le_of_ble_eq_true rfl | decide | omega) rfl rfl) ?_
          | refine TO.dz 2047 none rfl rfl rfl rfl (Does.store (i := 2) rfl rfl rfl sz3 rfl rfl (by first | exact Nat.le_of_ble_eq_true rfl | decide | omega) rfl rfl) ?_
          | refine TO.dz 2047 none rfl rfl rfl rfl (Does.store (i := 3) rfl rfl rfl sz3 rfl rfl (by first | exact Nat.le_of_ble_eq_true rfl | decide | omega) rfl rfl) ?_
          | refine TO.dz 2047 none rfl rfl rfl rfl (Does.store (i := 4) rfl rfl rfl sz3 rfl rfl (by first | exact Nat.le_of_ble_eq_true rfl | decide | omega) rfl rfl) ?_
          | refine TO.dz 2047 none rfl rfl rfl rfl (Does.store (i := 5) rfl rfl rfl sz3 rfl rfl (by first | exact Nat.le_of_ble_eq_true rfl | decide | omega) rfl rfl) ?_
        rintro _ _ ⟨rfl, rfl⟩
        refine roK ?_
        refine TA.tk 11 4095 rfl rfl rfl (Val.fieldAddr rfl fl26_14 sz3 rfl) ?_
        refine TA.one 12 (by kernel_rfl) ?_
        first
          | refine TO.dz 8191 none rfl rfl rfl rfl (Does.store (i := 0) rfl rfl rfl sz3 rfl rfl (by first | exact Nat.le_of_ble_eq_true rfl | decide | omega) rfl rfl) ?_
          | refine TO.dz 8191 none rfl rfl rfl rfl (Does.store (i := 1) rfl rfl rfl sz3 rfl rfl (by first | exact Nat.le_of_ble_eq_true rfl | decide | omega) rfl rfl) ?_
          | refine TO.dz 8191 none rfl rfl rfl rfl (Does.store (i := 2) rfl rfl rfl sz3 rfl rfl (by first | exact Nat.le_of_ble_eq_true rfl | decide | omega) rfl rfl) ?_
          | refine TO.dz 8191 none rfl rfl rfl rfl (Does.store (i := 3) rfl rfl rfl sz3 rfl rfl (by first | exact Nat.le_of_ble_eq_true rfl | decide | omega) rfl rfl) ?_
          | refine TO.dz 8191 none rfl rfl rfl rfl (Does.store (i := 4) rfl rfl rfl sz3 rfl rfl (by first | exact Nat.le_of_ble_eq_true rfl | decide | omega) rfl rfl) ?_
          | refine TO.dz 8191 none rfl rfl rfl rfl (Does.store (i := 5) rfl rfl rfl sz3 rfl rfl (by first | exact Nat.le_of_ble_eq_true rfl | decide | omega) rfl rfl) ?_
        rintro _ _ ⟨rfl, rfl⟩
        refine roK ?_
        refine TA.done (by kernel_rfl) ?_
        refine AtX.then ?_
        refine TC.env (E' := [(2, _), (3, _), (4, _)]) (Sub.cons rfl (Sub.cons rfl (Sub.cons rfl (Sub.nil _)))) ?_
        refine TC.seq ?_
        refine TC.heap (M' := (b3, .cells #[.int .i64 (3 * a0 + 1 + a1), .int .i64 (a0), .int .i64 (1 + a2), .int .i64 (2 * a0 + 1 + a3), .int .i64 (1 + a4), .int .i64 (1 + a5), .int .i64 (1 + a6), .int .i64 (T0), .int .i64 (T1), .int .i64 (0), .int .i64 (0), .int .i64 (a9), .int .i64 (1 + a10), .int .i64 (1 + a10 + c10), .int .i64 (a11), .int .i64 (a12), .int .i64 (1 + a13), .int .i64 (1 + c13), .int .i64 (4), .int .i64 (50), .int .i64 (2), .int .i64 (100), .int .i64 (3), .int .i64 (4), .int .i64 (256), .int .u64 (1)] 26 (0, 0)) :: (b4, .cells #[.int .i64 q0, .int .i64 q1, .int .i64 q2, .int .i64 q3, .int .i64 q4, .int .i64 q5, .int .i64 q6, .int .i64 q7, .int .i64 q8, .int .i64 q9, .int .i64 q10, .int .i64 q11, .int .i64 q12, .int .i64 q13, .int .i64 q14, .int .i64 q15, .int .i64 q16, .int .i64 q17, .int .i64 q18, .int .i64 q19] 83 (0, 0)) :: (b1, .cells #[.int .i64 (0), .int .i64 (0), .int .i64 (0), .int .i64 (0), .int .i64 (0), .int .i64 (0), .int .i64 (0), .int .i64 (0), .int .i64 (0), .int .i64 (0), .int .i64 (0), .int .i64 (0), .int .i64 (0), .int .i64 (0), .int .i64 (0), .int .i64 (0), .int .i64 (0), .int .i64 (0), .int .i64 (0), .int .i64 (0), .int .i64 (0), .int .i64 (0), .int .i64 (0), .int .i64 (0), .int .i64 (0), .int .u64 (0)] 26 (0, 0)) :: M) (fun w h => h) ?_
        refine TC.drawL ((b4, .cells #[.int .i64 q0, .int .i64 q1, .int .i64 q2, .int .i64 q3, .int .i64 q4, .int .i64 q5, .int .i64 q6, .int .i64 q7, .int .i64 q8, .int .i64 q9, .int .i64 q10, .int .i64 q11, .int .i64 q12, .int .i64 q13, .int .i64 q14, .int .i64 q15, .int .i64 q16, .int .i64 q17, .int .i64 q18, .int .i64 q19] 83 (0, 0)) :: (b1, .cells #[.int .i64 (0), .int .i64 (0), .int .i64 (0), .int .i64 (0), .int .i64 (0), .int .i64 (0), .int .i64 (0), .int .i64 (0), .int .i64 (0), .int .i64 (0), .int .i64 (0), .int .i64 (0), .int .i64 (0), .int .i64 (0), .int .i64 (0), .int .i64 (0), .int .i64 (0), .int .i64 (0), .int .i64 (0), .int .i64 (0), .int .i64 (0), .int .i64 (0), .int .i64 (0), .int .i64 (0), .int .i64 (0), .int .u64 (0)] 26 (0, 0)) :: M) mixed 13 ?_
        refine TA.tk 0 1 rfl rfl rfl (Val.indexAddrA (i := 14) rfl rfl ar83 sz3 rfl (by first | decide | omega) rfl) ?_
        first
          | refine TA.tk 1 3 rfl rfl rfl (Val.load 0 rfl ag3 rfl rfl) ?_
          | refine TA.tk 1 3 rfl rfl rfl (Val.load 1 rfl ag3 rfl rfl) ?_
          | refine TA.tk 1 3 rfl rfl rfl (Val.load 2 rfl ag3 rfl rfl) ?_
          | refine TA.tk 1 3 rfl rfl rfl (Val.load 3 rfl ag3 rfl rfl) ?_
          | refine TA.tk 1 3 rfl rfl rfl (Val.load 4 rfl ag3 rfl rfl) ?_
          | refine TA.tk 1 3 rfl rfl rfl (Val.load 5 rfl ag3 rfl rfl) ?_
        refine TA.tk 2 7 rfl rfl rfl (Val.rem rfl rfl (by first | decide | omega) (r := a14) ha14) ?_
        first
          | refine TA.tk 3 15 rfl rfl rfl (Val.add rfl rfl (w_i64 (by omega) (by omega))) ?_
          | refine TA.tk 3 15 rfl rfl rfl (Val.add rfl rfl rfl) ?_
        refine TA.tk 4 31 rfl rfl rfl (Val.indexAddrA (i := 14) rfl rfl ar83 sz3 rfl (by first | decide | omega) rfl) ?_
        first
          | refine TA.tk 5 63 rfl rfl rfl (Val.load 0 rfl ag3 rfl rfl) ?_
          | refine TA.tk 5 63 rfl rfl rfl (Val.load 1 rfl ag3 rfl rfl) ?_
          | refine TA.tk 5 63 rfl rfl rfl (Val.load 2 rfl ag3 rfl rfl) ?_
          | refine TA.tk 5 63 rfl rfl rfl (Val.load 3 rfl ag3 rfl rfl) ?_
          | refine TA.tk 5 63 rfl rfl rfl (Val.load 4 rfl ag3 rfl rfl) ?_
          | refine TA.tk 5 63 rfl rfl rfl (Val.load 5 rfl ag3 rfl rfl) ?_
        refine TA.tk 6 127 rfl rfl rfl (Val.quo rfl rfl (by decide) (r := b14) (by rw [hb14]; exact w_i64 (by omega) (by omega))) ?_
        refine TA.tk 7 255 rfl rfl rfl (Val.rem rfl rfl (by first | decide | omega) (r := c14) hc14) ?_
        first
          | refine TA.tk 8 511 rfl rfl rfl (Val.add rfl rfl (w_i64 (by omega) (by omega))) ?_
          | refine TA.tk 8 511 rfl rfl rfl (Val.add rfl rfl rfl) ?_
        refine TA.tk 9 1023 rfl rfl rfl (Val.fieldAddr rfl fl26_15 sz3 rfl) ?_
        refine TA.one 10 (by kernel_rfl) ?_
        first
          | refine TO.dz 2047 none rfl rfl rfl rfl (Does.store (i := 0) rfl rfl rfl sz3 rfl rfl (by first | exact Nat.le_of_ble_eq_true rfl | decide | omega) rfl rfl) ?_
          | refine TO.dz 2047 none rfl rfl rfl rfl (Does.store (i := 1) rfl rfl rfl sz3 rfl rfl (by first | exact Nat.le_of_ble_eq_true rfl | decide | omega) rfl rfl) ?_
          | refine TO.dz 2047 none rfl rfl rfl rfl (Does.store (i := 2) rfl rfl rfl sz3 rfl rfl (by first | exact Nat.le_of_ble_eq_true rfl | decide | omega) rfl rfl) ?_
          | refine TO.dz 2047 none rfl rfl rfl rfl (Does.store (i := 3) rfl rfl rfl sz3 rfl rfl (by first | exact Nat.le_of_ble_eq_true rfl | decide | omega) rfl rfl) ?_
          | refine TO.dz 2047 none rfl rfl rfl rfl (Does.store (i := 4) rfl rfl rfl sz3 rfl rfl (by first | exact Nat.le_of_ble_eq_true rfl | decide | omega) rfl rfl) ?_
          | refine TO.dz 2047 none rfl rfl rfl rfl (Does.store (i := 5) rfl rfl rfl sz3 rfl rfl (by first | exact Nat.le_of_ble_eq_true rfl | decide | omega) rfl rfl) ?_
        rintro _ _ ⟨rfl, rfl⟩
        refine roK ?_
        refine TA.tk 11 4095 rfl rfl rfl (Val.fieldAddr rfl fl26_16 sz3 rfl) ?_
        refine TA.one 12 (by kernel_rfl) ?_
        first
          | refine TO.dz 8191 none rfl rfl rfl rfl (Does.store (i := 0) rfl rfl rfl sz3 rfl rfl (by first | exact Nat.le_of_ble_eq_true rfl | decide | omega) rfl rfl) ?_
          | refine TO.dz 8191 none rfl rfl rfl rfl (Does.store (i := 1) rfl rfl rfl sz3 rfl rfl (by first | exact Nat.le_of_ble_eq_true rfl | decide | omega) rfl rfl) ?_
          | refine TO.dz 8191 none rfl rfl rfl rfl (Does.store (i := 2) rfl rfl rfl sz3 rfl rfl (by first | exact Nat.le_of_ble_eq_true rfl | decide | omega) rfl rfl) ?_
          | refine TO.dz 8191 none rfl rfl rfl rfl (Does.store (i := 3) rfl rfl rfl sz3 rfl rfl (by first | exact Nat.le_of_ble_eq_true rfl | decide | omega) rfl rfl) ?_
          | refine TO.dz 8191 none rfl rfl rfl rfl (Does.store (i := 4) rfl rfl rfl sz3 rfl rfl (by first | exact Nat.le_of_ble_eq_true rfl | decide | omega) rfl rfl) ?_
          | refine TO.dz 8191 none rfl rfl rfl rfl (Does.store (i := 5) rfl rfl rfl sz3 rfl rfl (by first | exact Nat.le_of_ble_eq_true rfl | decide | omega) rfl rfl) ?_
        rintro _ _ ⟨rfl, rfl⟩
        refine roK ?_
        refine TA.done (by kernel_rfl) ?_
        refine AtX.then ?_
        refine TC.env (E' := [(2, _), (3, _), (4, _)]) (Sub.cons rfl (Sub.cons rfl (Sub.cons rfl (Sub.nil _)))) ?_
        refine TC.seq ?_
        refine TC.heap (M' := (b3, .cells #[.int .i64 (3 * a0 + 1 + a1), .int .i64 (a0), .int .i64 (1 + a2), .int .i64 (2 * a0 + 1 + a3), .int .i64 (1 + a4), .int .i64 (1 + a5), .int .i64 (1 + a6), .int .i64 (T0), .int .i64 (T1), .int .i64 (0), .int .i64 (0), .int .i64 (a9), .int .i64 (1 + a10), .int .i64 (1 + a10 + c10), .int .i64 (a11), .int .i64 (a12), .int .i64 (1 + a13), .int .i64 (1 + c13), .int .i64 (1 + a14), .int .i64 (1 + c14), .int .i64 (2), .int .i64 (100), .int .i64 (3), .int .i64 (4), .int .i64 (256), .int .u64 (1)] 26 (0, 0)) :: (b4, .cells #[.int .i64 q0, .int .i64 q1, .int .i64 q2, .int .i64 q3, .int .i64 q4, .int .i64 q5, .int .i64 q6, .int .i64 q7, .int .i64 q8, .int .i64 q9, .int .i64 q10, .int .i64 q11, .int .i64 q12, .int .i64 q13, .int .i64 q14, .int .i64 q15, .int .i64 q16, .int .i64 q17, .int .i64 q18, .int .i64 q19] 83 (0, 0)) :: (b1, .cells #[.int .i64 (0), .int .i64 (0), .int .i64 (0), .int .i64 (0), .int .i64 (0), .int .i64 (0), .int .i64 (0), .int .i64 (0), .int .i64 (0), .int .i64 (0), .int .i64 (0), .int .i64 (0), .int .i64 (0), .int .i64 (0), .int .i64 (0), .int .i64 (0), .int .i64 (0), .int .i64 (0), .int .i64 (0), .int .i64 (0), .int .i64 (0), .int .i64 (0), .int .i64 (0), .int .i64 (0), .int .i64 (0), .int .u64 (0)] 26 (0, 0)) :: M) (fun w h => h) ?_
        refine TC.region ?_
        refine TL.val rfl rfl (Nat.le_of_ble_eq_true rfl) (Val.indexAddrA (i := 15) rfl rfl ar83 sz3 rfl (by first | decide | omega) rfl) ?_
        first
          | refine TL.val rfl rfl (Nat.le_of_ble_eq_true rfl) (Val.load 0 rfl ag3 rfl rfl) ?_
          | refine TL.val rfl rfl (Nat.le_of_ble_eq_true rfl) (Val.load 1 rfl ag3 rfl rfl) ?_
          | refine TL.val rfl rfl (Nat.le_of_ble_eq_true rfl) (Val.load 2 rfl ag3 rfl rfl) ?_
          | refine TL.val rfl rfl (Nat.le_of_ble_eq_true rfl) (Val.load 3 rfl ag3 rfl rfl) ?_
          | refine TL.val rfl rfl (Nat.le_of_ble_eq_true rfl) (Val.load 4 rfl ag3 rfl rfl) ?_
          | refine TL.val rfl rfl (Nat.le_of_ble_eq_true rfl) (Val.load 5 rfl ag3 rfl rfl) ?_
        refine TL.val rfl rfl (Nat.le_of_ble_eq_true rfl) (Val.rem rfl rfl (by first | decide | omega) (r := a15) ha15) ?_
        first
          | refine TL.val rfl rfl (Nat.le_of_ble_eq_true rfl) (Val.add rfl rfl (w_i64 (by omega) (by omega))) ?_
          | refine TL.val rfl rfl (Nat.le_of_ble_eq_true rfl) (Val.add rfl rfl rfl) ?_
        refine TL.val rfl rfl (Nat.le_of_ble_eq_true rfl) (Val.fieldAddr rfl fl26_17 sz3 rfl) ?_
        first
          | refine TL.does none rfl rfl rfl (Does.store (i := 0) rfl rfl rfl sz3 rfl rfl (by first | exact Nat.le_of_ble_eq_true rfl | decide | omega) rfl rfl) ?_
          | refine TL.does none rfl rfl rfl (Does.store (i := 1) rfl rfl rfl sz3 rfl rfl (by first | exact Nat.le_of_ble_eq_true rfl | decide | omega) rfl rfl) ?_
          | refine TL.does none rfl rfl rfl (Does.store (i := 2) rfl rfl rfl sz3 rfl rfl (by first | exact Nat.le_of_ble_eq_true rfl | decide | omega) rfl rfl) ?_
          | refine TL.does none rfl rfl rfl (Does.store (i := 3) rfl rfl rfl sz3 rfl rfl (by first | exact Nat.le_of_ble_eq_true rfl | decide | omega) rfl rfl) ?_
          | refine TL.does none rfl rfl rfl (Does.store (i := 4) rfl rfl rfl sz3 rfl rfl (by first | exact Nat.le_of_ble_eq_true rfl | decide | omega) rfl rfl) ?_
          | refine TL.does none rfl rfl rfl (Does.store (i := 5) rfl rfl rfl sz3 rfl rfl (by first | exact Nat.le_of_ble_eq_true rfl | decide | omega) rfl rfl) ?_
        rintro _ _ ⟨rfl, rfl⟩
        refine TL.nil ?_
        refine AtX.then ?_
        refine TC.env (E' := [(2, _), (3, _), (4, _)]) (Sub.cons rfl (Sub.cons rfl (Sub.cons rfl (Sub.nil _)))) ?_
        refine TC.seq ?_
        refine TC.heap (M' := (b3, .cells #[.int .i64 (3 * a0 + 1 + a1), .int .i64 (a0), .int .i64 (1 + a2), .int .i64 (2 * a0 + 1 + a3), .int .i64 (1 + a4), .int .i64 (1 + a5), .int .i64 (1 + a6), .int .i64 (T0), .int .i64 (T1), .int .i64 (0), .int .i64 (0), .int .i64 (a9), .int .i64 (1 + a10), .int .i64 (1 + a10 + c10), .int .i64 (a11), .int .i64 (a12), .int .i64 (1 + a13), .int .i64 (1 + c13), .int .i64 (1 + a14), .int .i64 (1 + c14), .int .i64 (1 + a15), .int .i64 (100), .int .i64 (3), .int .i64 (4), .int .i64 (256), .int .u64 (1)] 26 (0, 0)) :: (b4, .cells #[.int .i64 q0, .int .i64 q1, .int .i64 q2, .int .i64 q3, .int .i64 q4, .int .i64 q5, .int .i64 q6, .int .i64 q7, .int .i64 q8, .int .i64 q9, .int .i64 q10, .int .i64 q11, .int .i64 q12, .int .i64 q13, .int .i64 q14, .int .i64 q15, .int .i64 q16, .int .i64 q17, .int .i64 q18, .int .i64 q19] 83 (0, 0)) :: (b1, .cells #[.int .i64 (0), .int .i64 (0), .int .i64 (0), .int .i64 (0), .int .i64 (0), .int .i64 (0), .int .i64 (0), .int .i64 (0), .int .i64 (0), .int .i64 (0), .int .i64 (0), .int .i64 (0), .int .i64 (0), .int .i64 (0), .int .i64 (0), .int .i64 (0), .int .i64 (0), .int .i64 (0), .int .i64 (0), .int .i64 (0), .int .i64 (0), .int .i64 (0), .int .i64 (0), .int .i64 (0), .int .i64 (0), .int .u64 (0)] 26 (0, 0)) :: M) (fun w h => h) ?_
        refine TC.region ?_
        refine TL.val rfl rfl (Nat.le_of_ble_eq_true rfl) (Val.indexAddrA (i := 16) rfl rfl ar83 sz3 rfl (by first | decide | omega) rfl) ?_
        first
          | refine TL.val rfl rfl (Nat.le_of_ble_eq_true rfl) (Val.load 0 rfl ag3 rfl rfl) ?_
          | refine TL.val rfl rfl (Nat.le_of_ble_eq_true rfl) (Val.load 1 rfl ag3 rfl rfl) ?_
          | refine TL.val rfl rfl (Nat.le_of_ble_eq_true rfl) (Val.load 2 rfl ag3 rfl rfl) ?_
          | refine TL.val rfl rfl (Nat.le_of_ble_eq_true rfl) (Val.load 3 rfl ag3 rfl rfl) ?_
          | refine TL.val rfl rfl (Nat.le_of_ble_eq_true rfl) (Val.load 4 rfl ag3 rfl rfl) ?_
          | refine TL.val rfl rfl (Nat.le_of_ble_eq_true rfl) (Val.load 5 rfl ag3 rfl rfl) ?_
        refine TL.val rfl rfl (Nat.le_of_ble_eq_true rfl) (Val.rem rfl rfl (by first | decide | omega) (r := a16) ha16) ?_
        refine TL.val rfl rfl (Nat.le_of_ble_eq_true rfl) (Val.fieldAddr rfl fl26_18 sz2 rfl) ?_
        first
          | refine TL.does none rfl rfl rfl (Does.store (i := 0) rfl rfl rfl sz2 rfl rfl (by first | exact Nat.le_of_ble_eq_true rfl | decide | omega) rfl rfl) ?_
          | refine TL.does none rfl rfl rfl (Does.store (i := 1) rfl rfl rfl sz2 rfl rfl (by first | exact Nat.le_of_ble_eq_true rfl | decide | omega) rfl rfl) ?_
          | refine TL.does none rfl rfl rfl (Does.store (i := 2) rfl rfl rfl sz2 rfl rfl (by first | exact Nat.le_of_ble_eq_true rfl | decide | omega) rfl rfl) ?_
          | refine TL.does none rfl rfl rfl (Does.store (i := 3) rfl rfl rfl sz2 rfl rfl (by first | exact Nat.le_of_ble_eq_true rfl | decide | omega) rfl rfl) ?_
          | refine TL.does none rfl rfl rfl (Does.store (i := 4) rfl rfl rfl sz2 rfl rfl (by first | exact Nat.le_of_ble_eq_true rfl | decide | omega) rfl rfl) ?_
          | refine TL.does none rfl rfl rfl (Does.store (i := 5) rfl rfl rfl sz2 rfl rfl (by first | exact Nat.le_of_ble_eq_true rfl | decide | omega) rfl rfl) ?_
        rintro _ _ ⟨rfl, rfl⟩
        refine TL.nil ?_
        refine AtX.then ?_
        refine TC.env (E' := [(2, _), (3, _), (4, _)]) (Sub.cons rfl (Sub.cons rfl (Sub.cons rfl (Sub.nil _)))) ?_
        refine TC.seq ?_
        refine TC.heap (M' := (b3, .cells #[.int .i64 (3 * a0 + 1 + a1), .int .i64 (a0), .int .i64 (1 + a2), .int .i64 (2 * a0 + 1 + a3), .int .i64 (1 + a4), .int .i64 (1 + a5), .int .i64 (1 + a6), .int .i64 (T0), .int .i64 (T1), .int .i64 (0), .int .i64 (0), .int .i64 (a9), .int .i64 (1 + a10), .int .i64 (1 + a10 + c10), .int .i64 (a11), .int .i64 (a12), .int .i64 (1 + a13), .int .i64 (1 + c13), .int .i64 (1 + a14), .int .i64 (1 + c14), .int .i64 (1 + a15), .int .i64 (a16), .int .i64 (3), .int .i64 (4), .int .i64 (256), .int .u64 (1)] 26 (0, 0)) :: (b4, .cells #[.int .i64 q0, .int .i64 q1, .int .i64 q2, .int .i64 q3, .int .i64 q4, .int .i64 q5, .int .i64 q6, .int .i64 q7, .int .i64 q8, .int .i64 q9, .int .i64 q10, .int .i64 q11, .int .i64 q12, .int .i64 q13, .int .i64 q14, .int .i64 q15, .int .i64 q16, .int .i64 q17, .int .i64 q18, .int .i64 q19] 83 (0, 0)) :: (b1, .cells #[.int .i64 (0), .int .i64 (0), .int .i64 (0), .int .i64 (0), .int .i64 (0), .int .i64 (0), .int .i64 (0), .int .i64 (0), .int .i64 (0), .int .i64 (0), .int .i64 (0), .int .i64 (0), .int .i64 (0), .int .i64 (0), .int .i64 (0), .int .i64 (0), .int .i64 (0), .int .i64 (0), .int .i64 (0), .int .i64 (0), .int .i64 (0), .int .i64 (0), .int .i64 (0), .int .i64 (0), .int .i64 (0), .int .u64 (0)] 26 (0, 0)) :: M) (fun w h => h) ?_
        refine TC.drawL ((b4, .cells #[.int .i64 q0, .int .i64 q1, .int .i64 q2, .int .i64 q3, .int .i64 q4, .int .i64 q5, .int .i64 q6, .int .i64 q7, .int .i64 q8, .int .i64 q9, .int .i64 q10, .int .i64 q11, .int .i64 q12, .int .i64 q13, .int .i64 q14, .int .i64 q15, .int .i64 q16, .int .i64 q17, .int .i64 q18, .int .i64 q19] 83 (0, 0)) :: (b1, .cells #[.int .i64 (0), .int .i64 (0), .int .i64 (0), .int .i64 (0), .int .i64 (0), .int .i64 (0), .int .i64 (0), .int .i64 (0), .int .i64 (0), .int .i64 (0), .int .i64 (0), .int .i64 (0), .int .i64 (0), .int .i64 (0), .int .i64 (0), .int .i64 (0), .int .i64 (0), .int .i64 (0), .int .i64 (0), .int .i64 (0), .int .i64 (0), .int .i64 (0), .int .i64 (0), .int .i64 (0), .int .i64 (0), .int .u64 (0)] 26 (0, 0)) :: M) mixed 13 ?_
        refine TA.tk 0 1 rfl rfl rfl (Val.indexAddrA (i := 17) rfl rfl ar83 sz3 rfl (by first | decide | omega) rfl) ?_
        first
          | refine TA.tk 1 3 rfl rfl rfl (Val.load 0 rfl ag3 rfl rfl) ?_
          | refine TA.tk 1 3 rfl rfl rfl (Val.load 1 rfl ag3 rfl rfl) ?_
          | refine TA.tk 1 3 rfl rfl rfl (Val.load 2 rfl ag3 rfl rfl) ?_
          | refine TA.tk 1 3 rfl rfl rfl (Val.load 3 rfl ag3 rfl rfl) ?_
          | refine TA.tk 1 3 rfl rfl rfl (Val.load 4 rfl ag3 rfl rfl) ?_
          | refine TA.tk 1 3 rfl rfl rfl (Val.load 5 rfl ag3 rfl rfl) ?_
        refine TA.tk 2 7 rfl rfl rfl (Val.rem rfl rfl (by first | decide | omega) (r := a17) ha17) ?_
        first
          | refine TA.tk 3 15 rfl rfl rfl (Val.add rfl rfl (w_i64 (by omega) (by omega))) ?_
          | refine TA.tk 3 15 rfl rfl rfl (Val.add rfl rfl rfl) ?_
        refine TA.tk 4 31 rfl rfl rfl (Val.indexAddrA (i := 17) rfl rfl ar83 sz3 rfl (by first | decide | omega) rfl) ?_
        first
          | refine TA.tk 5 63 rfl rfl rfl (Val.load 0 rfl ag3 rfl rfl) ?_
          | refine TA.tk 5 63 rfl rfl rfl (Val.load 1 rfl ag3 rfl rfl) ?_
          | refine TA.tk 5 63 rfl rfl rfl (Val.load 2 rfl ag3 rfl rfl) ?_
          | refine TA.tk 5 63 rfl rfl rfl (Val.load 3 rfl ag3 rfl rfl) ?_
          | refine TA.tk 5 63 rfl rfl rfl (Val.load 4 rfl ag3 rfl rfl) ?_
          | refine TA.tk 5 63 rfl rfl rfl (Val.load 5 rfl ag3 rfl rfl) ?_
        refine TA.tk 6 127 rfl rfl rfl (Val.quo rfl rfl (by decide) (r := b17) (by rw [hb17]; exact w_i64 (by omega) (by omega))) ?_
        refine TA.tk 7 255 rfl rfl rfl (Val.rem rfl rfl (by first | decide | omega) (r := c17) hc17) ?_
        first
          | refine TA.tk 8 511 rfl rfl rfl (Val.add rfl rfl (w_i64 (by omega) (by omega))) ?_
          | refine TA.tk 8 511 rfl rfl rfl (Val.add rfl rfl rfl) ?_
        refine TA.tk 9 1023 rfl rfl rfl (Val.fieldAddr rfl fl26_19 sz3 rfl) ?_
        refine TA.one 10 (by kernel_rfl) ?_
        first
          | refine TO.dz 2047 none rfl rfl rfl rfl (Does.store (i := 0) rfl rfl rfl sz3 rfl rfl (by first | exact Nat.le_of_ble_eq_true rfl | decide | omega) rfl rfl) ?_
          | refine TO.dz 2047 none rfl rfl rfl rfl (Does.store (i := 1) rfl rfl rfl sz3 rfl rfl (by first | exact Nat.le_of_ble_eq_true rfl | decide | omega) rfl rfl) ?_
          | refine TO.dz 2047 none rfl rfl rfl rfl (Does.store (i := 2) rfl rfl rfl sz3 rfl rfl (by first | exact Nat.le_of_ble_eq_true rfl | decide | omega) rfl rfl) ?_
          | refine TO.dz 2047 none rfl rfl rfl rfl (Does.store (i := 3) rfl rfl rfl sz3 rfl rfl (by first | exact Nat.le_of_ble_eq_true rfl | decide | omega) rfl rfl) ?_
          | refine TO.dz 2047 none rfl rfl rfl rfl (Does.store (i := 4) rfl rfl rfl sz3 rfl rfl (by first | exact Nat.le_of_ble_eq_true rfl | decide | omega) rfl rfl) ?_
          | refine TO.dz 2047 none rfl rfl rfl rfl (Does.store (i := 5) rfl rfl rfl sz3 rfl rfl (by first | exact Nat.le_of_ble_eq_true rfl | decide | omega) rfl rfl) ?_
        rintro _ _ ⟨rfl, rfl⟩
        refine roK ?_
        refine TA.tk 11 4095 rfl rfl rfl (Val.fieldAddr rfl fl26_20 sz3 rfl) ?_
        refine TA.one 12 (by kernel_rfl) ?_
        first
          | refine TO.dz 8191 none rfl rfl rfl rfl (Does.store (i := 0) rfl rfl rfl sz3 rfl rfl (by first | exact Nat.le_of_ble_eq_true rfl | decide | omega) rfl rfl) ?_
          | refine TO.dz 8191 none rfl rfl rfl rfl (Does.store (i := 1) rfl rfl rfl sz3 rfl rfl (by first | exact Nat.le_of_ble_eq_true rfl | decide | omega) rfl rfl) ?_
          | refine TO.dz 8191 none rfl rfl rfl rfl (Does.store (i := 2) rfl rfl rfl sz3 rfl rfl (by first | exact Nat.le_of_ble_eq_true rfl | decide | omega) rfl rfl) ?_
          | refine TO.dz 8191 none rfl rfl rfl rfl (Does.store (i := 3) rfl rfl rfl sz3 rfl rfl (by first | exact Nat.le_of_ble_eq_true rfl | decide | omega) rfl rfl) ?_
          | refine TO.dz 8191 none rfl rfl rfl rfl (Does.store (i := 4) rfl rfl rfl sz3 rfl rfl (by first | exact Nat.le_of_ble_eq_true rfl | decide | omega) rfl rfl) ?_
          | refine TO.dz 8191 none rfl rfl rfl rfl (Does.store (i := 5) rfl rfl rfl sz3 rfl rfl (by first | exact Nat.le_of_ble_eq_true rfl | decide | omega) rfl rfl) ?_
        rintro _ _ ⟨rfl, rfl⟩
        refine roK ?_
        refine TA.done (by kernel_rfl) ?_
        refine AtX.then ?_
        refine TC.env (E' := [(2, _), (3, _), (4, _)]) (Sub.cons rfl (Sub.cons rfl (Sub.cons rfl (Sub.nil _)))) ?_
        refine TC.seq ?_
        refine TC.heap (M' := (b3, .cells #[.int .i64 (3 * a0 + 1 + a1), .int .i64 (a0), .int .i64 (1 + a2), .int .i64 (2 * a0 + 1 + a3), .int .i64 (1 + a4), .int .i64 (1 + a5), .int .i64 (1 + a6), .int .i64 (T0), .int .i64 (T1), .int .i64 (0), .int .i64 (0), .int .i64 (a9), .int .i64 (1 + a10), .int .i64 (1 + a10 + c10), .int .i64 (a11), .int .i64 (a12), .int .i64 (1 + a13), .int .i64 (1 + c13), .int .i64 (1 + a14), .int .i64 (1 + c14), .int .i64 (1 + a15), .int .i64 (a16), .int .i64 (1 + a17), .int .i64 (1 + c17), .int .i64 (256), .int .u64 (1)] 26 (0, 0)) :: (b4, .cells #[.int .i64 q0, .int .i64 q1, .int .i64 q2, .int .i64 q3, .int .i64 q4, .int .i64 q5, .int .i64 q6, .int .i64 q7, .int .i64 q8, .int .i64 q9, .int .i64 q10, .int .i64 q11, .int .i64 q12, .int .i64 q13, .int .i64 q14, .int .i64 q15, .int .i64 q16, .int .i64 q17, .int .i64 q18, .int .i64 q19] 83 (0, 0)) :: (b1, .cells #[.int .i64 (0), .int .i64 (0), .int .i64 (0), .int .i64 (0), .int .i64 (0), .int .i64 (0), .int .i64 (0), .int .i64 (0), .int .i64 (0), .int .i64 (0), .int .i64 (0), .int .i64 (0), .int .i64 (0), .int .i64 (0), .int .i64 (0), .int .i64 (0), .int .i64 (0), .int .i64 (0), .int .i64 (0), .int .i64 (0), .int .i64 (0), .int .i64 (0), .int .i64 (0), .int .i64 (0), .int .i64 (0), .int .u64 (0)] 26 (0, 0)) :: M) (fun w h => h) ?_
        refine TC.region ?_
        refine TL.val rfl rfl (Nat.le_of_ble_eq_true rfl) (Val.indexAddrA (i := 18) rfl rfl ar83 sz3 rfl (by first | decide | omega) rfl) ?_
        first
          | refine TL.val rfl rfl (Nat.le_of_ble_eq_true rfl) (Val.load 0 rfl ag3 rfl rfl) ?_
          | refine TL.val rfl rfl (Nat.le_of_ble_eq_true rfl) (Val.load 1 rfl ag3 rfl rfl) ?_
          | refine TL.val rfl rfl (Nat.le_of_ble_eq_true rfl) (Val.load 2 rfl ag3 rfl rfl) ?_
          | refine TL.val rfl rfl (Nat.le_of_ble_eq_true rfl) (Val.load 3 rfl ag3 rfl rfl) ?_
          | refine TL.val rfl rfl (Nat.le_of_ble_eq_true rfl) (Val.load 4 rfl ag3 rfl rfl) ?_
          | refine TL.val rfl rfl (Nat.le_of_ble_eq_true rfl) (Val.load 5 rfl ag3 rfl rfl) ?_
        refine TL.val rfl rfl (Nat.le_of_ble_eq_true rfl) (Val.rem rfl rfl (by first | decide | omega) (r := a18) ha18) ?_
        first
          | refine TL.val rfl rfl (Nat.le_of_ble_eq_true rfl) (Val.add rfl rfl (w_i64 (by omega) (by omega))) ?_
          | refine TL.val rfl rfl (Nat.le_of_ble_eq_true rfl) (Val.add rfl rfl rfl) ?_
        refine TL.val rfl rfl (Nat.le_of_ble_eq_true rfl) (Val.fieldAddr rfl fl26_21 sz3 rfl) ?_
        first
          | refine TL.does none rfl rfl rfl (Does.store (i := 0) rfl rfl rfl sz3 rfl rfl (by first | exact Nat.le_of_ble_eq_true rfl | decide | omega) rfl rfl) ?_
          | refine TL.does none rfl rfl rfl (Does.store (i := 1) rfl rfl rfl sz3 rfl rfl (by first | exact Nat.le_of_ble_eq_true rfl | decide | omega) rfl rfl) ?_
          | refine TL.does none rfl rfl rfl (Does.store (i := 2) rfl rfl rfl sz3 rfl rfl (by first | exact Nat.le_of_ble_eq_true rfl | decide | omega) rfl rfl) ?_
          | refine TL.does none rfl rfl rfl (Does.store (i := 3) rfl rfl rfl sz3 rfl rfl (by first | exact Nat.le_of_ble_eq_true rfl | decide | omega) rfl rfl) ?_
          | refine TL.does none rfl rfl rfl (Does.store (i := 4) rfl rfl rfl sz3 rfl rfl (by first | exact Nat.le_of_ble_eq_true rfl | decide | omega) rfl rfl) ?_
          | refine TL.does none rfl rfl rfl (Does.store (i := 5) rfl rfl rfl sz3 rfl rfl (by first | exact Nat.le_of_ble_eq_true rfl | decide | omega) rfl rfl) ?_
        rintro _ _ ⟨rfl, rfl⟩
        refine TL.nil ?_
        refine AtX.then ?_
        refine TC.env (E' := [(2, _), (3, _), (4, _)]) (Sub.cons rfl (Sub.cons rfl (Sub.cons rfl (Sub.nil _)))) ?_
        refine TC.seq ?_
        refine TC.heap (M' := (b3, .cells #[.int .i64 (3 * a0 + 1 + a1), .int .i64 (a0), .int .i64 (1 + a2), .int .i64 (2 * a0 + 1 + a3), .int .i64 (1 + a4), .int .i64 (1 + a5), .int .i64 (1 + a6), .int .i64 (T0), .int .i64 (T1), .int .i64 (0), .int .i64 (0), .int .i64 (a9), .int .i64 (1 + a10), .int .i64 (1 + a10 + c10), .int .i64 (a11), .int .i64 (a12), .int .i64 (1 + a13), .int .i64 (1 + c13), .int .i64 (1 + a14), .int .i64 (1 + c14), .int .i64 (1 + a15), .int .i64 (a16), .int .i64 (1 + a17), .int .i64 (1 + c17), .int .i64 (64 + a18), .int .u64 (1)] 26 (0, 0)) :: (b4, .cells #[.int .i64 q0, .int .i64 q1, .int .i64 q2, .int .i64 q3, .int .i64 q4, .int .i64 q5, .int .i64 q6, .int .i64 q7, .int .i64 q8, .int .i64 q9, .int .i64 q10, .int .i64 q11, .int .i64 q12, .int .i64 q13, .int .i64 q14, .int .i64 q15, .int .i64 q16, .int .i64 q17, .int .i64 q18, .int .i64 q19] 83 (0, 0)) :: (b1, .cells #[.int .i64 (0), .int .i64 (0), .int .i64 (0), .int .i64 (0), .int .i64 (0), .int .i64 (0), .int .i64 (0), .int .i64 (0), .int .i64 (0), .int .i64 (0), .int .i64 (0), .int .i64 (0), .int .i64 (0), .int .i64 (0), .int .i64 (0), .int .i64 (0), .int .i64 (0), .int .i64 (0), .int .i64 (0), .int .i64 (0), .int .i64 (0), .int .i64 (0), .int .i64 (0), .int .i64 (0), .int .i64 (0), .int .u64 (0)] 26 (0, 0)) :: M) (fun w h => h) ?_
        refine TC.region ?_
        refine TL.val rfl rfl (Nat.le_of_ble_eq_true rfl) (Val.indexAddrA (i := 19) rfl rfl ar83 sz3 rfl (by first | decide | omega) rfl) ?_
        first
          | refine TL.val rfl rfl (Nat.le_of_ble_eq_true rfl) (Val.load 0 rfl ag3 rfl rfl) ?_
          | refine TL.val rfl rfl (Nat.le_of_ble_eq_true rfl) (Val.load 1 rfl ag3 rfl rfl) ?_
          | refine TL.val rfl rfl (Nat.le_of_ble_eq_true rfl) (Val.load 2 rfl ag3 rfl rfl) ?_
          | refine TL.val rfl rfl (Nat.le_of_ble_eq_true rfl) (Val.load 3 rfl ag3 rfl rfl) ?_
          | refine TL.val rfl rfl (Nat.le_of_ble_eq_true rfl) (Val.load 4 rfl ag3 rfl rfl) ?_
          | refine TL.val rfl rfl (Nat.le_of_ble_eq_true rfl) (Val.load 5 rfl ag3 rfl rfl) ?_
        refine TL.val rfl rfl (Nat.le_of_ble_eq_true rfl) (Val.convI rfl iu3 in24 (w_u64 (by omega) (by omega))) ?_
        refine TL.val rfl rfl (Nat.le_of_ble_eq_true rfl) (Val.fieldAddr rfl fl26_22 sz24 rfl) ?_
        first
          | refine TL.does none rfl rfl rfl (Does.store (i := 0) rfl rfl rfl sz24 rfl rfl (by first | exact Nat.le_of_ble_eq_true rfl | decide | omega) rfl rfl) ?_
          | refine TL.does none rfl rfl rfl (Does.store (i := 1) rfl rfl rfl sz24 rfl rfl (by first | exact Nat.le_of_ble_eq_true rfl | decide | omega) rfl rfl) ?_
          | refine TL.does none rfl rfl rfl (Does.store (i := 2) rfl rfl rfl sz24 rfl rfl (by first | exact Nat.le_of_ble_eq_true rfl | decide | omega) rfl rfl) ?_
          | refine TL.does none rfl rfl rfl (Does.store (i := 3) rfl rfl rfl sz24 rfl rfl (by first | exact Nat.le_of_ble_eq_true rfl | decide | omega) rfl rfl) ?_
          | refine TL.does none rfl rfl rfl (Does.store (i := 4) rfl rfl rfl sz24 rfl rfl (by first | exact Nat.le_of_ble_eq_true rfl | decide | omega) rfl rfl) ?_
          | refine TL.does none rfl rfl rfl (Does.store (i := 5) rfl rfl rfl sz24 rfl rfl (by first | exact Nat.le_of_ble_eq_true rfl | decide | omega) rfl rfl) ?_
        rintro _ _ ⟨rfl, rfl⟩
        refine TL.nil ?_
        refine AtX.then ?_
        refine TC.env (E' := [(2, _), (3, _)]) (Sub.cons rfl (Sub.cons rfl (Sub.nil _))) ?_
        refine TC.seq ?_
        refine TC.heap (M' := (b3, .cells #[.int .i64 (3 * a0 + 1 + a1), .int .i64 (a0), .int .i64 (1 + a2), .int .i64 (2 * a0 + 1 + a3), .int .i64 (1 + a4), .int .i64 (1 + a5), .int .i64 (1 + a6), .int .i64 (T0), .int .i64 (T1), .int .i64 (0), .int .i64 (0), .int .i64 (a9), .int .i64 (1 + a10), .int .i64 (1 + a10 + c10), .int .i64 (a11), .int .i64 (a12), .int .i64 (1 + a13), .int .i64 (1 + c13), .int .i64 (1 + a14), .int .i64 (1 + c14), .int .i64 (1 + a15), .int .i64 (a16), .int .i64 (1 + a17), .int .i64 (1 + c17), .int .i64 (64 + a18), .int .u64 (q19)] 26 (0, 0)) :: (b4, .cells #[.int .i64 q0, .int .i64 q1, .int .i64 q2, .int .i64 q3, .int .i64 q4, .int .i64 q5, .int .i64 q6, .int .i64 q7, .int .i64 q8, .int .i64 q9, .int .i64 q10, .int .i64 q11, .int .i64 q12, .int .i64 q13, .int .i64 q14, .int .i64 q15, .int .i64 q16, .int .i64 q17, .int .i64 q18, .int .i64 q19] 83 (0, 0)) :: (b1, .cells #[.int .i64 (0), .int .i64 (0), .int .i64 (0), .int .i64 (0), .int .i64 (0), .int .i64 (0), .int .i64 (0), .int .i64 (0), .int .i64 (0), .int .i64 (0), .int .i64 (0), .int .i64 (0), .int .i64 (0), .int .i64 (0), .int .i64 (0), .int .i64 (0), .int .i64 (0), .int .i64 (0), .int .i64 (0), .int .i64 (0), .int .i64 (0), .int .i64 (0), .int .i64 (0), .int .i64 (0), .int .i64 (0), .int .u64 (0)] 26 (0, 0)) :: M) (fun w h => h) ?_
        refine TC.region ?_
        refine TL.val rfl rfl (Nat.le_of_ble_eq_true rfl) (Val.loadAgg (vs := [.int .i64 (3 * a0 + 1 + a1), .int .i64 (a0), .int .i64 (1 + a2), .int .i64 (2 * a0 + 1 + a3), .int .i64 (1 + a4), .int .i64 (1 + a5), .int .i64 (1 + a6), .int .i64 (T0), .int .i64 (T1), .int .i64 (0), .int .i64 (0), .int .i64 (a9), .int .i64 (1 + a10), .int .i64 (1 + a10 + c10), .int .i64 (a11), .int .i64 (a12), .int .i64 (1 + a13), .int .i64 (1 + c13), .int .i64 (1 + a14), .int .i64 (1 + c14), .int .i64 (1 + a15), .int .i64 (a16), .int .i64 (1 + a17), .int .i64 (1 + c17), .int .i64 (64 + a18), .int .u64 (q19)]) 0 rfl ag26 sz26 rfl rfl rfl) ?_
        refine TL.does none rfl rfl rfl (Does.storeR (ys' := [.int .i64 (3 * a0 + 1 + a1), .int .i64 (a0), .int .i64 (1 + a2), .int .i64 (2 * a0 + 1 + a3), .int .i64 (1 + a4), .int .i64 (1 + a5), .int .i64 (1 + a6), .int .i64 (T0), .int .i64 (T1), .int .i64 (0), .int .i64 (0), .int .i64 (a9), .int .i64 (1 + a10), .int .i64 (1 + a10 + c10), .int .i64 (a11), .int .i64 (a12), .int .i64 (1 + a13), .int .i64 (1 + c13), .int .i64 (1 + a14), .int .i64 (1 + c14), .int .i64 (1 + a15), .int .i64 (a16), .int .i64 (1 + a17), .int .i64 (1 + c17), .int .i64 (64 + a18), .int .u64 (q19)]) 2 rfl rfl rfl sz26 rfl rfl (by exact Nat.le_of_ble_eq_true rfl) rfl) ?_
        rintro _ _ ⟨rfl, rfl⟩
        refine TL.nil ?_
        refine AtX.then ?_
        refine TC.env (E' := [(2, _)]) (Sub.cons rfl (Sub.nil _)) ?_
        first
          | refine TC.ret1 (fn := Try.f11) (fun _ _ h => h) rfl (RV.agg (i := 0) rfl ag26 sz26 rfl rfl rfl) (M' := M) (by repeat (first | exact ro_refl | exact ro_pre | refine ro_tail ?_ | refine ro_app ?_)) ?_
          | refine TC.ret1 (fn := Try.f11) (fun _ _ h => h) rfl (RV.agg (i := 1) rfl ag26 sz26 rfl rfl rfl) (M' := M) (by repeat (first | exact ro_refl | exact ro_pre | refine ro_tail ?_ | refine ro_app ?_)) ?_
          | refine TC.ret1 (fn := Try.f11) (fun _ _ h => h) rfl (RV.agg (i := 2) rfl ag26 sz26 rfl rfl rfl) (M' := M) (by repeat (first | exact ro_refl | exact ro_pre | refine ro_tail ?_ | refine ro_app ?_)) ?_
          | refine TC.ret1 (fn := Try.f11) (fun _ _ h => h) rfl (RV.agg (i := 3) rfl ag26 sz26 rfl rfl rfl) (M' := M) (by repeat (first | exact ro_refl | exact ro_pre | refine ro_tail ?_ | refine ro_app ?_)) ?_
          | refine TC.ret1 (fn := Try.f11) (fun _ _ h => h) rfl (RV.agg (i := 4) rfl ag26 sz26 rfl rfl rfl) (M' := M) (by repeat (first | exact ro_refl | exact ro_pre | refine ro_tail ?_ | refine ro_app ?_)) ?_
          | refine TC.ret1 (fn := Try.f11) (fun _ _ h => h) rfl (RV.agg (i := 5) rfl ag26 sz26 rfl rfl rfl) (M' := M) (by repeat (first | exact ro_refl | exact ro_pre | refine ro_tail ?_ | refine ro_app ?_)) ?_
        refine ⟨⟨3 * a0 + 1 + a1, a0, 1 + a2, 2 * a0 + 1 + a3, 1 + a4, 1 + a5, 1 + a6, T0, T1, 0, 0, a9, 1 + a10, 1 + a10 + c10, a11, a12, 1 + a13, 1 + c13, 1 + a14, 1 + c14, 1 + a15, a16, 1 + a17, 1 + c17, 64 + a18, q19⟩, rfl, ?_, rfl⟩
        exact fit_fin ga0 la0 ga1 la1 ga2 la2 ga3 la3 ga4 la4 ga5 la5 ga6 la6 ga9 la9 ga10 la10 ga11 la11 ga12 la12 ga13 la13 ga14 la14 ga15 la15 ga16 la16 ga17 la17 ga18 la18 gc10 lc10 gc13 lc13 gc14 lc14 gc17 lc17 hT0b hT1b hq19

end Go.Proofs.Ytphoapajlcaoeaa
/- walks -/
set_option linter.unusedVariables false
set_option linter.unusedSimpArgs false
set_option maxRecDepth 100000
set_option maxHeartbeats 4000000
namespace Go.Proofs.Ytphoapajlcaoeaa
open Go Go.X
/-- bytes.Equal -/
theorem Equal_fn (l m : List UInt8) (A B : Option Addr) (n n2 c c2 : Nat) (M : Hp) (hA : RdS M A (bv l)) (hB : RdS M B (bv m)) (hn : n = l.length) (hn2 : n2 = m.length) : FnC Try.prog 107 #[.slice A n c, .slice B n2 c2] M (fun v M' => ∃ g, g = decide (l = m) ∧ v = .bool g ∧ M = M') := by
  refine FnC.intro Try.func107 rfl 10 rfl (by simp) (fun z => ?_)
  refine TC.env (E' := [(0, _), (1, _)]) (Sub.cons rfl (Sub.cons rfl (Sub.nil _))) ?_
  refine TC.seq ?_
  refine TC.region ?_
  refine TL.val rfl rfl (Nat.le_of_ble_eq_true rfl) (Val.assign rfl) ?_
  refine TL.nil ?_
  refine AtX.then ?_
  refine TC.seq ?_
  refine TC.region ?_
  refine TL.val rfl rfl (Nat.le_of_ble_eq_true rfl) (Val.move rfl) ?_
  refine TL.val rfl rfl (Nat.le_of_ble_eq_true rfl) (Val.b2s rfl us37 ui5 un9 hn hA) ?_
  refine TL.val rfl rfl (Nat.le_of_ble_eq_true rfl) (Val.move rfl) ?_
  refine TL.val rfl rfl (Nat.le_of_ble_eq_true rfl) (Val.b2s rfl us37 ui5 un9 hn2 hB) ?_
  first
    | refine TL.val rfl rfl (Nat.le_of_ble_eq_true rfl) (Val.eqlL rfl rfl) ?_
    | refine TL.val rfl rfl (Nat.le_of_ble_eq_true rfl) (Val.eqlS rfl rfl) ?_
  refine TL.val rfl rfl (Nat.le_of_ble_eq_true rfl) (Val.assign rfl) ?_
  refine TL.nil ?_
  refine AtX.then ?_
  refine TC.env (E' := [(4, _)]) (Sub.cons rfl (Sub.nil _)) ?_
  refine TC.ret1 (fn := Try.f107) (fun _ _ h => h) rfl (RV.tmp rfl) (fun _ h => h) ?_
  exact ⟨_, rfl, rfl, rfl⟩

/-- bytes.Clone -/
theorem Clone_fn (l : List UInt8) (p : Addr) (n c : Nat) (M : Hp) (hA : RdS M (some p) (bv l)) (hn : n = l.length) (hl : l.length ≤ 100000) : FnC Try.prog 82 #[.slice (some p) n c] M (fun v M' => ∃ σ, v = .slice (slA σ) l.length (slC σ) ∧ slOk σ 1 l.length (bv l) ∧ M' = slH σ 5 (bv l) ++ M) := by
  subst hn
  refine FnC.intro Try.func82 rfl 8 rfl (by simp) (fun z => ?_)
  refine TC.env (E' := [(0, _)]) (Sub.cons rfl (Sub.nil _)) ?_
  refine TC.seq ?_
  refine TC.region ?_
  refine TL.val rfl rfl (Nat.le_of_ble_eq_true rfl) (Val.assign rfl) ?_
  refine TL.nil ?_
  refine AtX.then ?_
  refine TC.seq ?_
  refine TC.seq ?_
  refine TC.region ?_
  refine TL.val rfl rfl (Nat.le_of_ble_eq_true rfl) (Val.move rfl) ?_
  refine TL.val rfl rfl (Nat.le_of_ble_eq_true rfl) (Val.eqlNilS rfl rfl sl37) ?_
  refine TL.nil ?_
  refine AtX.then ?_
  refine TC.env (E' := [(0, _), (2, _), (4, _)]) (Sub.cons rfl (Sub.cons rfl (Sub.cons rfl (Sub.nil _)))) ?_
  first | refine TC.condP rfl (fun c1 => ?_) (fun c1 => ?_) | refine TC.condN rfl (fun c1 => ?_) (fun c1 => ?_) | refine TC.condB rfl (fun c1 => ?_) (fun c1 => ?_) | refine TC.cond rfl (fun c1 => ?_) (fun c1 => ?_)
  · skip
    (exfalso; simp at c1)
  · skip
    refine TC.env (E' := [(0, _), (2, _)]) (Sub.cons rfl (Sub.cons rfl (Sub.nil _))) ?_
    refine TC.skip ?_
    refine AtX.then ?_
    refine TC.env (E' := [(0, _), (2, _)]) (Sub.cons rfl (Sub.cons rfl (Sub.nil _))) ?_
    refine TC.seq ?_
    refine TC.region ?_
    refine TL.does (some 5) rfl rfl rfl (Does.buildSlice0 sl37 sz5) ?_
    rintro _ _ ⟨b1, rfl, rfl⟩
    refine TL.val rfl rfl (Nat.le_of_ble_eq_true rfl) (Val.move rfl) ?_
    refine TL.does (some 7) rfl rfl rfl (Does.appendS (xs := []) (ys := bv l) (n := 0) (some (b1, 0, [])) M ro_refl rfl rfl sl37 sz5 by5 ze5 rfl ⟨rfl, rfl⟩ (srcB us37 ((hA.cons _))) (by simp) (bv_one _) (by omega) (by omega)) ?_
    rintro _ _ ⟨σ, rfl, hok, rfl⟩
    refine TL.val rfl rfl (Nat.le_of_ble_eq_true rfl) (Val.assign rfl) ?_
    refine TL.nil ?_
    refine AtX.then ?_
    refine TC.env (E' := [(2, _)]) (Sub.cons rfl (Sub.nil _)) ?_
    refine TC.ret1 (fn := Try.f82) (fun _ _ h => h) rfl (RV.tmp rfl) (fun _ h => h) ?_
    exact ⟨σ, by simp, by simpa using hok, by simp⟩

/-- quorumite/wire.Get$1 -/
theorem clo105_fn (l : List UInt8) (A : Option Addr) (n c : Nat) (o p i : Nat) (M : Hp) (h1 : M[i]? = some (p, .cells #[.slice A n c] 37 (0, 0))) (hA : RdS M A (bv l)) (hn : n = l.length) (hl : l.length ≤ 1000) (ho : o + 8 ≤ l.length) : FnC Try.prog 105 #[.int .i64 (o : Nat), .pointer (some ⟨p, 0, none⟩)] M (fun v M' => v = .int .i64 (IntKind.i64.wrap ((get8 l o : Nat) : Int)) ∧ M = M') := by
  refine FnC.intro Try.func105 rfl 14 rfl (by simp) (fun z => ?_)
  refine TC.env (E' := [(0, _), (1, _)]) (Sub.cons rfl (Sub.cons rfl (Sub.nil _))) ?_
  refine TC.seq ?_
  refine TC.region ?_
  refine TL.val rfl rfl (Nat.le_of_ble_eq_true rfl) (Val.assign rfl) ?_
  refine TL.nil ?_
  refine AtX.then ?_
  refine TC.seq ?_
  refine TC.region ?_
  refine TL.val rfl rfl (Nat.le_of_ble_eq_true rfl) (Val.load i rfl ag37 h1 rfl) ?_
  refine TL.val rfl rfl (Nat.le_of_ble_eq_true rfl) (Val.move rfl) ?_
  refine TL.does (some 9) rfl rfl rfl (Does.callF go106 rfl (sipGet_fn l _ _ _ o _ hA hn hl ho)) ?_
  rintro _ _ ⟨rfl, rfl⟩
  refine TL.val rfl rfl (Nat.le_of_ble_eq_true rfl) (Val.move rfl) ?_
  refine TL.val rfl rfl (Nat.le_of_ble_eq_true rfl) (Val.extract rfl rfl) ?_
  refine TL.val rfl rfl (Nat.le_of_ble_eq_true rfl) (Val.extract rfl rfl) ?_
  refine TL.val rfl rfl (Nat.le_of_ble_eq_true rfl) (Val.assign rfl) ?_
  refine TL.val rfl rfl (Nat.le_of_ble_eq_true rfl) (Val.assign rfl) ?_
  refine TL.nil ?_
  refine AtX.then ?_
  refine TC.env (E' := [(3, _), (4, _)]) (Sub.cons rfl (Sub.cons rfl (Sub.nil _))) ?_
  refine TC.seq ?_
  refine TC.region ?_
  refine TL.val rfl rfl (Nat.le_of_ble_eq_true rfl) (Val.move rfl) ?_
  refine TL.val rfl rfl (Nat.le_of_ble_eq_true rfl) (Val.convI rfl iu24 in2 rfl) ?_
  refine TL.val rfl rfl (Nat.le_of_ble_eq_true rfl) (Val.assign rfl) ?_
  refine TL.nil ?_
  refine AtX.then ?_
  refine TC.env (E' := [(3, _)]) (Sub.cons rfl (Sub.nil _)) ?_
  refine TC.ret1 (fn := Try.f105) (fun _ _ h => h) rfl (RV.tmp rfl) (fun _ h => h) ?_
  exact ⟨rfl, rfl⟩

/-- quorumite/wire.Get -/
theorem wGet_fn (m : Ms) (A : Option Addr) (n c : Nat) (M : Hp) (hA : RdS M A (bv (putM m))) (hn : n = 32) (hm : mayM m = true) : FnC Try.prog 80 #[.slice A n c] M (fun v M' => v = .tuple #[.agg #[.int .i64 m.kind, .int .i64 m.who, .int .i64 m.gen, .int .i64 m.seq, .int .i64 m.epoch, .int .i64 m.value, .int .i64 m.metric], .int .i64 0] ∧ M = M') := by
  subst hn
  obtain ⟨bA, oA, rfl, hR⟩ := RdS.get hA (by simp)
  have hb := mayM_iff.1 hm
  have hvb := val_bd hm
  have hmb : 0 ≤ m.metric ∧ m.metric ≤ 255 := by rw [← putM_metric hm]; have := UInt8.toNat_lt ((putM m).getD 3 0); omega
  refine FnC.intro Try.func80 rfl 51 rfl (by simp) (fun z => ?_)
  refine TC.env (E' := [(0, _)]) (Sub.cons rfl (Sub.nil _)) ?_
  refine TC.seq ?_
  refine TC.region ?_
  refine TL.does (some 1) rfl rfl rfl (Does.box rfl rfl) ?_
  rintro _ _ ⟨b1, rfl, rfl⟩
  refine TL.does (some 2) rfl rfl rfl (Does.alloc ze61 rfl) ?_
  rintro _ _ ⟨b2, rfl, rfl⟩
  refine TL.val rfl rfl (Nat.le_of_ble_eq_true rfl) (Val.assign rfl) ?_
  refine TL.nil ?_
  refine AtX.then ?_
  refine TC.env (E' := [(1, _), (2, _), (3, _)]) (Sub.cons rfl (Sub.cons rfl (Sub.cons rfl (Sub.nil _)))) ?_
  refine TC.seq ?_
  refine TC.seq ?_
  refine TC.region ?_
  first
    | refine TL.val rfl rfl (Nat.le_of_ble_eq_true rfl) (Val.load 0 rfl ag37 rfl rfl) ?_
    | refine TL.val rfl rfl (Nat.le_of_ble_eq_true rfl) (Val.load 1 rfl ag37 rfl rfl) ?_
    | refine TL.val rfl rfl (Nat.le_of_ble_eq_true rfl) (Val.load 2 rfl ag37 rfl rfl) ?_
    | refine TL.val rfl rfl (Nat.le_of_ble_eq_true rfl) (Val.load 3 rfl ag37 rfl rfl) ?_
    | refine TL.val rfl rfl (Nat.le_of_ble_eq_true rfl) (Val.load 4 rfl ag37 rfl rfl) ?_
    | refine TL.val rfl rfl (Nat.le_of_ble_eq_true rfl) (Val.load 5 rfl ag37 rfl rfl) ?_
  refine TL.val rfl rfl (Nat.le_of_ble_eq_true rfl) (Val.lenSl rfl rfl sl37) ?_
  refine TL.val rfl rfl (Nat.le_of_ble_eq_true rfl) (Val.neqI rfl rfl) ?_
  refine TL.nil ?_
  refine AtX.then ?_
  refine TC.env (E' := [(1, _), (2, _), (3, _), (10, _)]) (Sub.cons rfl (Sub.cons rfl (Sub.cons rfl (Sub.cons rfl (Sub.nil _))))) ?_
  first | refine TC.condP rfl (fun c1 => ?_) (fun c1 => ?_) | refine TC.condN rfl (fun c1 => ?_) (fun c1 => ?_) | refine TC.condB rfl (fun c1 => ?_) (fun c1 => ?_) | refine TC.cond rfl (fun c1 => ?_) (fun c1 => ?_)
  · skip
    exact absurd rfl c1
  · skip
    refine TC.env (E' := [(1, _), (2, _), (3, _)]) (Sub.cons rfl (Sub.cons rfl (Sub.cons rfl (Sub.nil _)))) ?_
    refine TC.skip ?_
    refine AtX.then ?_
    refine TC.env (E' := [(1, _), (2, _), (3, _)]) (Sub.cons rfl (Sub.cons rfl (Sub.cons rfl (Sub.nil _)))) ?_
    refine TC.seq ?_
    refine TC.region ?_
    refine TL.val rfl rfl (Nat.le_of_ble_eq_true rfl) (Val.makeFunc rfl rfl) ?_
    refine TL.val rfl rfl (Nat.le_of_ble_eq_true rfl) (Val.assign rfl) ?_
    refine TL.nil ?_
    refine AtX.then ?_
    refine TC.env (E' := [(1, _), (2, _), (3, _), (4, _)]) (Sub.cons rfl (Sub.cons rfl (Sub.cons rfl (Sub.cons rfl (Sub.nil _))))) ?_
    refine TC.join (ι := Nat) (fun x => [(1, .pointer (some ⟨b1, 0, none⟩)), (2, .pointer (some ⟨b2, 0, none⟩)), (3, .int .i64 0), (5, .pointer (some ⟨x, 0, none⟩))]) (fun x => (x, .cells #[.int .i64 m.kind, .int .i64 m.who, .int .i64 m.gen, .int .i64 m.seq, .int .i64 m.epoch, .int .i64 m.value, .int .i64 m.metric] 61 (0, 0)) :: (b2, .cells #[.int .i64 0, .int .i64 0, .int .i64 0, .int .i64 0, .int .i64 0, .int .i64 0, .int .i64 0] 61 (0, 0)) :: (b1, .cells #[.slice (some ⟨bA, oA, none⟩) 32 c] 37 (0, 0)) :: M) (fun _ => True) ?_ ?_
    · skip
      refine TC.drawL ((b1, .cells #[.slice (some ⟨bA, oA, none⟩) 32 c] 37 (0, 0)) :: M) mixed 25 ?_
      first
        | refine TA.tk 0 1 rfl rfl rfl (Val.load 0 rfl ag37 rfl rfl) ?_
        | refine TA.tk 0 1 rfl rfl rfl (Val.load 1 rfl ag37 rfl rfl) ?_
        | refine TA.tk 0 1 rfl rfl rfl (Val.load 2 rfl ag37 rfl rfl) ?_
        | refine TA.tk 0 1 rfl rfl rfl (Val.load 3 rfl ag37 rfl rfl) ?_
        | refine TA.tk 0 1 rfl rfl rfl (Val.load 4 rfl ag37 rfl rfl) ?_
        | refine TA.tk 0 1 rfl rfl rfl (Val.load 5 rfl ag37 rfl rfl) ?_
      refine TA.tk 1 3 rfl rfl rfl (Val.indexAddr (i := 1) (r := oA + 1) rfl rfl sl37 sz5 rfl (by omega) (by omega)) ?_
      refine TA.tk 2 7 rfl rfl rfl (Val.loadB 1 rfl ag5 (hR.cons _) rfl (by simp)) ?_
      refine TA.tk 3 15 rfl rfl rfl (Val.convI rfl iu5 in3 (r := m.kind) (by rw [putM_kind hm]; exact w_i64 (by omega) (by omega))) ?_
      first
        | refine TA.tk 4 31 rfl rfl rfl (Val.load 0 rfl ag37 rfl rfl) ?_
        | refine TA.tk 4 31 rfl rfl rfl (Val.load 1 rfl ag37 rfl rfl) ?_
        | refine TA.tk 4 31 rfl rfl rfl (Val.load 2 rfl ag37 rfl rfl) ?_
        | refine TA.tk 4 31 rfl rfl rfl (Val.load 3 rfl ag37 rfl rfl) ?_
        | refine TA.tk 4 31 rfl rfl rfl (Val.load 4 rfl ag37 rfl rfl) ?_
        | refine TA.tk 4 31 rfl rfl rfl (Val.load 5 rfl ag37 rfl rfl) ?_
      refine TA.tk 5 63 rfl rfl rfl (Val.indexAddr (i := 2) (r := oA + 2) rfl rfl sl37 sz5 rfl (by omega) (by omega)) ?_
      refine TA.tk 6 127 rfl rfl rfl (Val.loadB 2 rfl ag5 (hR.cons _) rfl (by simp)) ?_
      refine TA.tk 7 255 rfl rfl rfl (Val.convI rfl iu5 in3 (r := m.who) (by rw [putM_who hm]; exact w_i64 (by omega) (by omega))) ?_
      first
        | refine TA.tk 8 511 rfl rfl rfl (Val.load 0 rfl ag37 rfl rfl) ?_
        | refine TA.tk 8 511 rfl rfl rfl (Val.load 1 rfl ag37 rfl rfl) ?_
        | refine TA.tk 8 511 rfl rfl rfl (Val.load 2 rfl ag37 rfl rfl) ?_
        | refine TA.tk 8 511 rfl rfl rfl (Val.load 3 rfl ag37 rfl rfl) ?_
        | refine TA.tk 8 511 rfl rfl rfl (Val.load 4 rfl ag37 rfl rfl) ?_
        | refine TA.tk 8 511 rfl rfl rfl (Val.load 5 rfl ag37 rfl rfl) ?_
      refine TA.tk 9 1023 rfl rfl rfl (Val.indexAddr (i := 3) (r := oA + 3) rfl rfl sl37 sz5 rfl (by omega) (by omega)) ?_
      refine TA.tk 10 2047 rfl rfl rfl (Val.loadB 3 rfl ag5 (hR.cons _) rfl (by simp)) ?_
      refine TA.tk 11 4095 rfl rfl rfl (Val.convI rfl iu5 in3 (r := m.metric) (by rw [putM_metric hm]; exact w_i64 (by omega) (by omega))) ?_
      refine TA.tk 12 8191 rfl rfl rfl (Val.move rfl) ?_
      refine TA.tk 16 73727 rfl rfl rfl (Val.move rfl) ?_
      refine TA.tk 18 335871 rfl rfl rfl (Val.move rfl) ?_
      refine TA.tk 20 1384447 rfl rfl rfl (Val.move rfl) ?_
      refine TA.two 13 23 (by kernel_rfl) ?_ ?_
      · skip
        first
          | refine TO.dz 1392639 (some 26) rfl rfl rfl rfl (Does.callC (cap := [.pointer (some ⟨b1, 0, none⟩)]) rfl go105 rfl (clo105_fn (putM m) (some ⟨bA, oA, none⟩) 32 c 4 b1 1 _ rfl ((hA.cons _).cons _) (by simp) (by simp) (by simp))) ?_
          | refine TO.dz 1392639 (some 26) rfl rfl rfl rfl (Does.callC (cap := [.pointer (some ⟨b1, 0, none⟩)]) rfl go105 rfl (clo105_fn (putM m) (some ⟨bA, oA, none⟩) 32 c 4 b1 2 _ rfl (((hA.cons _).cons _).cons _) (by simp) (by simp) (by simp))) ?_
        rintro _ _ ⟨rfl, rfl⟩
        refine roK ?_
        refine TA.tk 14 1409023 rfl rfl rfl (Val.convI rfl iu2 in171 rfl) ?_
        refine TA.tk 15 1441791 rfl rfl rfl (Val.convI rfl iu171 in3 (r := m.gen) (by rw [putM_gen hm]; exact w_i64 (by omega) (by omega))) ?_
        refine TA.two 17 23 (by kernel_rfl) ?_ ?_
        · skip
          first
            | refine TO.dz 1572863 (some 30) rfl rfl rfl rfl (Does.callC (cap := [.pointer (some ⟨b1, 0, none⟩)]) rfl go105 rfl (clo105_fn (putM m) (some ⟨bA, oA, none⟩) 32 c 8 b1 1 _ rfl ((hA.cons _).cons _) (by simp) (by simp) (by simp))) ?_
            | refine TO.dz 1572863 (some 30) rfl rfl rfl rfl (Does.callC (cap := [.pointer (some ⟨b1, 0, none⟩)]) rfl go105 rfl (clo105_fn (putM m) (some ⟨bA, oA, none⟩) 32 c 8 b1 2 _ rfl (((hA.cons _).cons _).cons _) (by simp) (by simp) (by simp))) ?_
          rintro _ _ ⟨rfl, rfl⟩
          rw [show IntKind.i64.wrap ((get8 (putM m) 8 : Nat) : Int) = m.seq from by rw [putM_seq hm]; exact w_i64 (by omega) (by omega)]
          refine roK ?_
          refine TA.two 19 23 (by kernel_rfl) ?_ ?_
          · skip
            first
              | refine TO.dz 2097151 (some 32) rfl rfl rfl rfl (Does.callC (cap := [.pointer (some ⟨b1, 0, none⟩)]) rfl go105 rfl (clo105_fn (putM m) (some ⟨bA, oA, none⟩) 32 c 16 b1 1 _ rfl ((hA.cons _).cons _) (by simp) (by simp) (by simp))) ?_
              | refine TO.dz 2097151 (some 32) rfl rfl rfl rfl (Does.callC (cap := [.pointer (some ⟨b1, 0, none⟩)]) rfl go105 rfl (clo105_fn (putM m) (some ⟨bA, oA, none⟩) 32 c 16 b1 2 _ rfl (((hA.cons _).cons _).cons _) (by simp) (by simp) (by simp))) ?_
            rintro _ _ ⟨rfl, rfl⟩
            rw [show IntKind.i64.wrap ((get8 (putM m) 16 : Nat) : Int) = m.epoch from by rw [putM_epoch hm]; exact w_i64 (by omega) (by omega)]
            refine roK ?_
            refine TA.two 21 23 (by kernel_rfl) ?_ ?_
            · skip
              first
                | refine TO.dz 4194303 (some 34) rfl rfl rfl rfl (Does.callC (cap := [.pointer (some ⟨b1, 0, none⟩)]) rfl go105 rfl (clo105_fn (putM m) (some ⟨bA, oA, none⟩) 32 c 24 b1 1 _ rfl ((hA.cons _).cons _) (by simp) (by simp) (by simp))) ?_
                | refine TO.dz 4194303 (some 34) rfl rfl rfl rfl (Does.callC (cap := [.pointer (some ⟨b1, 0, none⟩)]) rfl go105 rfl (clo105_fn (putM m) (some ⟨bA, oA, none⟩) 32 c 24 b1 2 _ rfl (((hA.cons _).cons _).cons _) (by simp) (by simp) (by simp))) ?_
              rintro _ _ ⟨rfl, rfl⟩
              rw [show IntKind.i64.wrap ((get8 (putM m) 24 : Nat) : Int) = m.value from by rw [putM_value hm]; exact w_i64 (by omega) (by omega)]
              refine roK ?_
              refine TA.tk 22 8388607 rfl rfl rfl (Val.buildS pl61 ze61 rfl rfl) ?_
              refine TA.one 23 (by kernel_rfl) ?_
              refine TO.dz 16777215 (some 5) rfl rfl rfl rfl (Does.alloc ze61 rfl) ?_
              rintro _ _ ⟨bm, rfl, rfl⟩
              refine roK ?_
              refine TA.one 24 (by kernel_rfl) ?_
              first
                | refine TO.dz 33554431 none rfl rfl rfl rfl (Does.store (i := 0) rfl rfl rfl sz61 rfl rfl (by first | exact Nat.le_of_ble_eq_true rfl | decide | omega) rfl rfl) ?_
                | refine TO.dz 33554431 none rfl rfl rfl rfl (Does.store (i := 1) rfl rfl rfl sz61 rfl rfl (by first | exact Nat.le_of_ble_eq_true rfl | decide | omega) rfl rfl) ?_
                | refine TO.dz 33554431 none rfl rfl rfl rfl (Does.store (i := 2) rfl rfl rfl sz61 rfl rfl (by first | exact Nat.le_of_ble_eq_true rfl | decide | omega) rfl rfl) ?_
                | refine TO.dz 33554431 none rfl rfl rfl rfl (Does.store (i := 3) rfl rfl rfl sz61 rfl rfl (by first | exact Nat.le_of_ble_eq_true rfl | decide | omega) rfl rfl) ?_
                | refine TO.dz 33554431 none rfl rfl rfl rfl (Does.store (i := 4) rfl rfl rfl sz61 rfl rfl (by first | exact Nat.le_of_ble_eq_true rfl | decide | omega) rfl rfl) ?_
                | refine TO.dz 33554431 none rfl rfl rfl rfl (Does.store (i := 5) rfl rfl rfl sz61 rfl rfl (by first | exact Nat.le_of_ble_eq_true rfl | decide | omega) rfl rfl) ?_
              rintro _ _ ⟨rfl, rfl⟩
              refine roK ?_
              refine TA.done (by kernel_rfl) ?_
              refine AtX.join bm ?_ (Sub.cons rfl (Sub.cons rfl (Sub.cons rfl (Sub.cons rfl (Sub.nil _))))) (fun w h => h)
              trivial
            · skip
              refine TO.dz 10485759 (some 5) rfl rfl rfl rfl (Does.alloc ze61 rfl) ?_
              rintro _ _ ⟨bm, rfl, rfl⟩
              refine roK ?_
              refine TA.one 21 (by kernel_rfl) ?_
              first
                | refine TO.dz 12582911 (some 34) rfl rfl rfl rfl (Does.callC (cap := [.pointer (some ⟨b1, 0, none⟩)]) rfl go105 rfl (clo105_fn (putM m) (some ⟨bA, oA, none⟩) 32 c 24 b1 1 _ rfl ((hA.cons _).cons _) (by simp) (by simp) (by simp))) ?_
                | refine TO.dz 12582911 (some 34) rfl rfl rfl rfl (Does.callC (cap := [.pointer (some ⟨b1, 0, none⟩)]) rfl go105 rfl (clo105_fn (putM m) (some ⟨bA, oA, none⟩) 32 c 24 b1 2 _ rfl (((hA.cons _).cons _).cons _) (by simp) (by simp) (by simp))) ?_
              rintro _ _ ⟨rfl, rfl⟩
              rw [show IntKind.i64.wrap ((get8 (putM m) 24 : Nat) : Int) = m.value from by rw [putM_value hm]; exact w_i64 (by omega) (by omega)]
              refine roK ?_
              refine TA.tk 22 16777215 rfl rfl rfl (Val.buildS pl61 ze61 rfl rfl) ?_
              refine TA.one 24 (by kernel_rfl) ?_
              first
                | refine TO.dz 33554431 none rfl rfl rfl rfl (Does.store (i := 0) rfl rfl rfl sz61 rfl rfl (by first | exact Nat.le_of_ble_eq_true rfl | decide | omega) rfl rfl) ?_
                | refine TO.dz 33554431 none rfl rfl rfl rfl (Does.store (i := 1) rfl rfl rfl sz61 rfl rfl (by first | exact Nat.le_of_ble_eq_true rfl | decide | omega) rfl rfl) ?_
                | refine TO.dz 33554431 none rfl rfl rfl rfl (Does.store (i := 2) rfl rfl rfl sz61 rfl rfl (by first | exact Nat.le_of_ble_eq_true rfl | decide | omega) rfl rfl) ?_
                | refine TO.dz 33554431 none rfl rfl rfl rfl (Does.store (i := 3) rfl rfl rfl sz61 rfl rfl (by first | exact Nat.le_of_ble_eq_true rfl | decide | omega) rfl rfl) ?_
                | refine TO.dz 33554431 none rfl rfl rfl rfl (Does.store (i := 4) rfl rfl rfl sz61 rfl rfl (by first | exact Nat.le_of_ble_eq_true rfl | decide | omega) rfl rfl) ?_
                | refine TO.dz 33554431 none rfl rfl rfl rfl (Does.store (i := 5) rfl rfl rfl sz61 rfl rfl (by first | exact Nat.le_of_ble_eq_true rfl | decide | omega) rfl rfl) ?_
              rintro _ _ ⟨rfl, rfl⟩
              refine roK ?_
              refine TA.done (by kernel_rfl) ?_
              refine AtX.join bm ?_ (Sub.cons rfl (Sub.cons rfl (Sub.cons rfl (Sub.cons rfl (Sub.nil _))))) (fun w h => h)
              trivial
          · skip
            refine TO.dz 9961471 (some 5) rfl rfl rfl rfl (Does.alloc ze61 rfl) ?_
            rintro _ _ ⟨bm, rfl, rfl⟩
            refine roK ?_
            refine TA.one 19 (by kernel_rfl) ?_
            first
              | refine TO.dz 10485759 (some 32) rfl rfl rfl rfl (Does.callC (cap := [.pointer (some ⟨b1, 0, none⟩)]) rfl go105 rfl (clo105_fn (putM m) (some ⟨bA, oA, none⟩) 32 c 16 b1 1 _ rfl ((hA.cons _).cons _) (by simp) (by simp) (by simp))) ?_
              | refine TO.dz 10485759 (some 32) rfl rfl rfl rfl (Does.callC (cap := [.pointer (some ⟨b1, 0, none⟩)]) rfl go105 rfl (clo105_fn (putM m) (some ⟨bA, oA, none⟩) 32 c 16 b1 2 _ rfl (((hA.cons _).cons _).cons _) (by simp) (by simp) (by simp))) ?_
            rintro _ _ ⟨rfl, rfl⟩
            rw [show IntKind.i64.wrap ((get8 (putM m) 16 : Nat) : Int) = m.epoch from by rw [putM_epoch hm]; exact w_i64 (by omega) (by omega)]
            refine roK ?_
            refine TA.one 21 (by kernel_rfl) ?_
            first
              | refine TO.dz 12582911 (some 34) rfl rfl rfl rfl (Does.callC (cap := [.pointer (some ⟨b1, 0, none⟩)]) rfl go105 rfl (clo105_fn (putM m) (some ⟨bA, oA, none⟩) 32 c 24 b1 1 _ rfl ((hA.cons _).cons _) (by simp) (by simp) (by simp))) ?_
              | refine TO.dz 12582911 (some 34) rfl rfl rfl rfl (Does.callC (cap := [.pointer (some ⟨b1, 0, none⟩)]) rfl go105 rfl (clo105_fn (putM m) (some ⟨bA, oA, none⟩) 32 c 24 b1 2 _ rfl (((hA.cons _).cons _).cons _) (by simp) (by simp) (by simp))) ?_
            rintro _ _ ⟨rfl, rfl⟩
            rw [show IntKind.i64.wrap ((get8 (putM m) 24 : Nat) : Int) = m.value from by rw [putM_value hm]; exact w_i64 (by omega) (by omega)]
            refine roK ?_
            refine TA.tk 22 16777215 rfl rfl rfl (Val.buildS pl61 ze61 rfl rfl) ?_
            refine TA.one 24 (by kernel_rfl) ?_
            first
              | refine TO.dz 33554431 none rfl rfl rfl rfl (Does.store (i := 0) rfl rfl rfl sz61 rfl rfl (by first | exact Nat.le_of_ble_eq_true rfl | decide | omega) rfl rfl) ?_
              | refine TO.dz 33554431 none rfl rfl rfl rfl (Does.store (i := 1) rfl rfl rfl sz61 rfl rfl (by first | exact Nat.le_of_ble_eq_true rfl | decide | omega) rfl rfl) ?_
              | refine TO.dz 33554431 none rfl rfl rfl rfl (Does.store (i := 2) rfl rfl rfl sz61 rfl rfl (by first | exact Nat.le_of_ble_eq_true rfl | decide | omega) rfl rfl) ?_
              | refine TO.dz 33554431 none rfl rfl rfl rfl (Does.store (i := 3) rfl rfl rfl sz61 rfl rfl (by first | exact Nat.le_of_ble_eq_true rfl | decide | omega) rfl rfl) ?_
              | refine TO.dz 33554431 none rfl rfl rfl rfl (Does.store (i := 4) rfl rfl rfl sz61 rfl rfl (by first | exact Nat.le_of_ble_eq_true rfl | decide | omega) rfl rfl) ?_
              | refine TO.dz 33554431 none rfl rfl rfl rfl (Does.store (i := 5) rfl rfl rfl sz61 rfl rfl (by first | exact Nat.le_of_ble_eq_true rfl | decide | omega) rfl rfl) ?_
            rintro _ _ ⟨rfl, rfl⟩
            refine roK ?_
            refine TA.done (by kernel_rfl) ?_
            refine AtX.join bm ?_ (Sub.cons rfl (Sub.cons rfl (Sub.cons rfl (Sub.cons rfl (Sub.nil _))))) (fun w h => h)
            trivial
        · skip
          refine TO.dz 9830399 (some 5) rfl rfl rfl rfl (Does.alloc ze61 rfl) ?_
          rintro _ _ ⟨bm, rfl, rfl⟩
          refine roK ?_
          refine TA.one 17 (by kernel_rfl) ?_
          first
            | refine TO.dz 9961471 (some 30) rfl rfl rfl rfl (Does.callC (cap := [.pointer (some ⟨b1, 0, none⟩)]) rfl go105 rfl (clo105_fn (putM m) (some ⟨bA, oA, none⟩) 32 c 8 b1 1 _ rfl ((hA.cons _).cons _) (by simp) (by simp) (by simp))) ?_
            | refine TO.dz 9961471 (some 30) rfl rfl rfl rfl (Does.callC (cap := [.pointer (some ⟨b1, 0, none⟩)]) rfl go105 rfl (clo105_fn (putM m) (some ⟨bA, oA, none⟩) 32 c 8 b1 2 _ rfl (((hA.cons _).cons _).cons _) (by simp) (by simp) (by simp))) ?_
          rintro _ _ ⟨rfl, rfl⟩
          rw [show IntKind.i64.wrap ((get8 (putM m) 8 : Nat) : Int) = m.seq from by rw [putM_seq hm]; exact w_i64 (by omega) (by omega)]
          refine roK ?_
          refine TA.one 19 (by kernel_rfl) ?_
          first
            | refine TO.dz 10485759 (some 32) rfl rfl rfl rfl (Does.callC (cap := [.pointer (some ⟨b1, 0, none⟩)]) rfl go105 rfl (clo105_fn (putM m) (some ⟨bA, oA, none⟩) 32 c 16 b1 1 _ rfl ((hA.cons _).cons _) (by simp) (by simp) (by simp))) ?_
            | refine TO.dz 10485759 (some 32) rfl rfl rfl rfl (Does.callC (cap := [.pointer (some ⟨b1, 0, none⟩)]) rfl go105 rfl (clo105_fn (putM m) (some ⟨bA, oA, none⟩) 32 c 16 b1 2 _ rfl (((hA.cons _).cons _).cons _) (by simp) (by simp) (by simp))) ?_
          rintro _ _ ⟨rfl, rfl⟩
          rw [show IntKind.i64.wrap ((get8 (putM m) 16 : Nat) : Int) = m.epoch from by rw [putM_epoch hm]; exact w_i64 (by omega) (by omega)]
          refine roK ?_
          refine TA.one 21 (by kernel_rfl) ?_
          first
            | refine TO.dz 12582911 (some 34) rfl rfl rfl rfl (Does.callC (cap := [.pointer (some ⟨b1, 0, none⟩)]) rfl go105 rfl (clo105_fn (putM m) (some ⟨bA, oA, none⟩) 32 c 24 b1 1 _ rfl ((hA.cons _).cons _) (by simp) (by simp) (by simp))) ?_
            | refine TO.dz 12582911 (some 34) rfl rfl rfl rfl (Does.callC (cap := [.pointer (some ⟨b1, 0, none⟩)]) rfl go105 rfl (clo105_fn (putM m) (some ⟨bA, oA, none⟩) 32 c 24 b1 2 _ rfl (((hA.cons _).cons _).cons _) (by simp) (by simp) (by simp))) ?_
          rintro _ _ ⟨rfl, rfl⟩
          rw [show IntKind.i64.wrap ((get8 (putM m) 24 : Nat) : Int) = m.value from by rw [putM_value hm]; exact w_i64 (by omega) (by omega)]
          refine roK ?_
          refine TA.tk 22 16777215 rfl rfl rfl (Val.buildS pl61 ze61 rfl rfl) ?_
          refine TA.one 24 (by kernel_rfl) ?_
          first
            | refine TO.dz 33554431 none rfl rfl rfl rfl (Does.store (i := 0) rfl rfl rfl sz61 rfl rfl (by first | exact Nat.le_of_ble_eq_true rfl | decide | omega) rfl rfl) ?_
            | refine TO.dz 33554431 none rfl rfl rfl rfl (Does.store (i := 1) rfl rfl rfl sz61 rfl rfl (by first | exact Nat.le_of_ble_eq_true rfl | decide | omega) rfl rfl) ?_
            | refine TO.dz 33554431 none rfl rfl rfl rfl (Does.store (i := 2) rfl rfl rfl sz61 rfl rfl (by first | exact Nat.le_of_ble_eq_true rfl | decide | omega) rfl rfl) ?_
            | refine TO.dz 33554431 none rfl rfl rfl rfl (Does.store (i := 3) rfl rfl rfl sz61 rfl rfl (by first | exact Nat.le_of_ble_eq_true rfl | decide | omega) rfl rfl) ?_
            | refine TO.dz 33554431 none rfl rfl rfl rfl (Does.store (i := 4) rfl rfl rfl sz61 rfl rfl (by first | exact Nat.le_of_ble_eq_true rfl | decide | omega) rfl rfl) ?_
            | refine TO.dz 33554431 none rfl rfl rfl rfl (Does.store (i := 5) rfl rfl rfl sz61 rfl rfl (by first | exact Nat.le_of_ble_eq_true rfl | decide | omega) rfl rfl) ?_
          rintro _ _ ⟨rfl, rfl⟩
          refine roK ?_
          refine TA.done (by kernel_rfl) ?_
          refine AtX.join bm ?_ (Sub.cons rfl (Sub.cons rfl (Sub.cons rfl (Sub.cons rfl (Sub.nil _))))) (fun w h => h)
          trivial
      · skip
        refine TO.dz 9773055 (some 5) rfl rfl rfl rfl (Does.alloc ze61 rfl) ?_
        rintro _ _ ⟨bm, rfl, rfl⟩
        refine roK ?_
        refine TA.one 13 (by kernel_rfl) ?_
        first
          | refine TO.dz 9781247 (some 26) rfl rfl rfl rfl (Does.callC (cap := [.pointer (some ⟨b1, 0, none⟩)]) rfl go105 rfl (clo105_fn (putM m) (some ⟨bA, oA, none⟩) 32 c 4 b1 1 _ rfl ((hA.cons _).cons _) (by simp) (by simp) (by simp))) ?_
          | refine TO.dz 9781247 (some 26) rfl rfl rfl rfl (Does.callC (cap := [.pointer (some ⟨b1, 0, none⟩)]) rfl go105 rfl (clo105_fn (putM m) (some ⟨bA, oA, none⟩) 32 c 4 b1 2 _ rfl (((hA.cons _).cons _).cons _) (by simp) (by simp) (by simp))) ?_
        rintro _ _ ⟨rfl, rfl⟩
        refine roK ?_
        refine TA.tk 14 9797631 rfl rfl rfl (Val.convI rfl iu2 in171 rfl) ?_
        refine TA.tk 15 9830399 rfl rfl rfl (Val.convI rfl iu171 in3 (r := m.gen) (by rw [putM_gen hm]; exact w_i64 (by omega) (by omega))) ?_
        refine TA.one 17 (by kernel_rfl) ?_
        first
          | refine TO.dz 9961471 (some 30) rfl rfl rfl rfl (Does.callC (cap := [.pointer (some ⟨b1, 0, none⟩)]) rfl go105 rfl (clo105_fn (putM m) (some ⟨bA, oA, none⟩) 32 c 8 b1 1 _ rfl ((hA.cons _).cons _) (by simp) (by simp) (by simp))) ?_
          | refine TO.dz 9961471 (some 30) rfl rfl rfl rfl (Does.callC (cap := [.pointer (some ⟨b1, 0, none⟩)]) rfl go105 rfl (clo105_fn (putM m) (some ⟨bA, oA, none⟩) 32 c 8 b1 2 _ rfl (((hA.cons _).cons _).cons _) (by simp) (by simp) (by simp))) ?_
        rintro _ _ ⟨rfl, rfl⟩
        rw [show IntKind.i64.wrap ((get8 (putM m) 8 : Nat) : Int) = m.seq from by rw [putM_seq hm]; exact w_i64 (by omega) (by omega)]
        refine roK ?_
        refine TA.one 19 (by kernel_rfl) ?_
        first
          | refine TO.dz 10485759 (some 32) rfl rfl rfl rfl (Does.callC (cap := [.pointer (some ⟨b1, 0, none⟩)]) rfl go105 rfl (clo105_fn (putM m) (some ⟨bA, oA, none⟩) 32 c 16 b1 1 _ rfl ((hA.cons _).cons _) (by simp) (by simp) (by simp))) ?_
          | refine TO.dz 10485759 (some 32) rfl rfl rfl rfl (Does.callC (cap := [.pointer (some ⟨b1, 0, none⟩)]) rfl go105 rfl (clo105_fn (putM m) (some ⟨bA, oA, none⟩) 32 c 16 b1 2 _ rfl (((hA.cons _).cons _).cons _) (by simp) (by simp) (by simp))) ?_
        rintro _ _ ⟨rfl, rfl⟩
        rw [show IntKind.i64.wrap ((get8 (putM m) 16 : Nat) : Int) = m.epoch from by rw [putM_epoch hm]; exact w_i64 (by omega) (by omega)]
        refine roK ?_
        refine TA.one 21 (by kernel_rfl) ?_
        first
          | refine TO.dz 12582911 (some 34) rfl rfl rfl rfl (Does.callC (cap := [.pointer (some ⟨b1, 0, none⟩)]) rfl go105 rfl (clo105_fn (putM m) (some ⟨bA, oA, none⟩) 32 c 24 b1 1 _ rfl ((hA.cons _).cons _) (by simp) (by simp) (by simp))) ?_
          | refine TO.dz 12582911 (some 34) rfl rfl rfl rfl (Does.callC (cap := [.pointer (some ⟨b1, 0, none⟩)]) rfl go105 rfl (clo105_fn (putM m) (some ⟨bA, oA, none⟩) 32 c 24 b1 2 _ rfl (((hA.cons _).cons _).cons _) (by simp) (by simp) (by simp))) ?_
        rintro _ _ ⟨rfl, rfl⟩
        rw [show IntKind.i64.wrap ((get8 (putM m) 24 : Nat) : Int) = m.value from by rw [putM_value hm]; exact w_i64 (by omega) (by omega)]
        refine roK ?_
        refine TA.tk 22 16777215 rfl rfl rfl (Val.buildS pl61 ze61 rfl rfl) ?_
        refine TA.one 24 (by kernel_rfl) ?_
        first
          | refine TO.dz 33554431 none rfl rfl rfl rfl (Does.store (i := 0) rfl rfl rfl sz61 rfl rfl (by first | exact Nat.le_of_ble_eq_true rfl | decide | omega) rfl rfl) ?_
          | refine TO.dz 33554431 none rfl rfl rfl rfl (Does.store (i := 1) rfl rfl rfl sz61 rfl rfl (by first | exact Nat.le_of_ble_eq_true rfl | decide | omega) rfl rfl) ?_
          | refine TO.dz 33554431 none rfl rfl rfl rfl (Does.store (i := 2) rfl rfl rfl sz61 rfl rfl (by first | exact Nat.le_of_ble_eq_true rfl | decide | omega) rfl rfl) ?_
          | refine TO.dz 33554431 none rfl rfl rfl rfl (Does.store (i := 3) rfl rfl rfl sz61 rfl rfl (by first | exact Nat.le_of_ble_eq_true rfl | decide | omega) rfl rfl) ?_
          | refine TO.dz 33554431 none rfl rfl rfl rfl (Does.store (i := 4) rfl rfl rfl sz61 rfl rfl (by first | exact Nat.le_of_ble_eq_true rfl | decide | omega) rfl rfl) ?_
          | refine TO.dz 33554431 none rfl rfl rfl rfl (Does.store (i := 5) rfl rfl rfl sz61 rfl rfl (by first | exact Nat.le_of_ble_eq_true rfl | decide | omega) rfl rfl) ?_
        rintro _ _ ⟨rfl, rfl⟩
        refine roK ?_
        refine TA.done (by kernel_rfl) ?_
        refine AtX.join bm ?_ (Sub.cons rfl (Sub.cons rfl (Sub.cons rfl (Sub.cons rfl (Sub.nil _))))) (fun w h => h)
        trivial
    · intro bm _
      refine TC.seq ?_
      refine TC.seq ?_
      refine TC.region ?_
      first
        | refine TL.val rfl rfl (Nat.le_of_ble_eq_true rfl) (Val.loadAgg 0 rfl ag61 sz61 rfl rfl rfl) ?_
        | refine TL.val rfl rfl (Nat.le_of_ble_eq_true rfl) (Val.loadAgg 1 rfl ag61 sz61 rfl rfl rfl) ?_
        | refine TL.val rfl rfl (Nat.le_of_ble_eq_true rfl) (Val.loadAgg 2 rfl ag61 sz61 rfl rfl rfl) ?_
        | refine TL.val rfl rfl (Nat.le_of_ble_eq_true rfl) (Val.loadAgg 3 rfl ag61 sz61 rfl rfl rfl) ?_
        | refine TL.val rfl rfl (Nat.le_of_ble_eq_true rfl) (Val.loadAgg 4 rfl ag61 sz61 rfl rfl rfl) ?_
        | refine TL.val rfl rfl (Nat.le_of_ble_eq_true rfl) (Val.loadAgg 5 rfl ag61 sz61 rfl rfl rfl) ?_
      refine TL.does (some 38) rfl rfl rfl (Does.callF go38 rfl (wPut_fn m _ hm)) ?_
      rintro _ _ ⟨bB, cB, spB, rfl, hcB, rfl⟩
      refine TL.val rfl rfl (Nat.le_of_ble_eq_true rfl) (Val.move rfl) ?_
      refine TL.val rfl rfl (Nat.le_of_ble_eq_true rfl) (Val.extract rfl rfl) ?_
      refine TL.val rfl rfl (Nat.le_of_ble_eq_true rfl) (Val.extract rfl rfl) ?_
      refine TL.val rfl rfl (Nat.le_of_ble_eq_true rfl) (Val.assign rfl) ?_
      refine TL.val rfl rfl (Nat.le_of_ble_eq_true rfl) (Val.assign rfl) ?_
      refine TL.nil ?_
      refine AtX.then ?_
      refine TC.env (E' := [(1, _), (2, _), (3, _), (5, _), (6, _), (7, _)]) (Sub.cons rfl (Sub.cons rfl (Sub.cons rfl (Sub.cons rfl (Sub.cons rfl (Sub.cons rfl (Sub.nil _))))))) ?_
      refine TC.seq ?_
      refine TC.region ?_
      refine TL.val rfl rfl (Nat.le_of_ble_eq_true rfl) (Val.move rfl) ?_
      refine TL.val rfl rfl (Nat.le_of_ble_eq_true rfl) (Val.neqI rfl rfl) ?_
      refine TL.val rfl rfl (Nat.le_of_ble_eq_true rfl) (Val.move rfl) ?_
      refine TL.valYes rfl rfl (Nat.le_of_ble_eq_true rfl) rfl (Nat.le_of_ble_eq_true rfl) rfl (Val.move rfl) ?_
      first
        | refine TL.valYes rfl rfl (Nat.le_of_ble_eq_true rfl) rfl (Nat.le_of_ble_eq_true rfl) rfl (Val.load 0 rfl ag37 rfl rfl) ?_
        | refine TL.valYes rfl rfl (Nat.le_of_ble_eq_true rfl) rfl (Nat.le_of_ble_eq_true rfl) rfl (Val.load 1 rfl ag37 rfl rfl) ?_
        | refine TL.valYes rfl rfl (Nat.le_of_ble_eq_true rfl) rfl (Nat.le_of_ble_eq_true rfl) rfl (Val.load 2 rfl ag37 rfl rfl) ?_
        | refine TL.valYes rfl rfl (Nat.le_of_ble_eq_true rfl) rfl (Nat.le_of_ble_eq_true rfl) rfl (Val.load 3 rfl ag37 rfl rfl) ?_
        | refine TL.valYes rfl rfl (Nat.le_of_ble_eq_true rfl) rfl (Nat.le_of_ble_eq_true rfl) rfl (Val.load 4 rfl ag37 rfl rfl) ?_
        | refine TL.valYes rfl rfl (Nat.le_of_ble_eq_true rfl) rfl (Nat.le_of_ble_eq_true rfl) rfl (Val.load 5 rfl ag37 rfl rfl) ?_
      refine TL.doesYes (some 46) rfl rfl rfl (Nat.le_of_ble_eq_true rfl) rfl rfl (Does.callF go107 rfl (Equal_fn (putM m) (putM m) _ _ _ _ _ _ _ (rd_all (i := 0) rfl) ((((hA.cons _).cons _).cons _).cons _) (by simp) (by simp))) ?_
      rintro _ _ ⟨ge, hge, rfl, rfl⟩
      simp at hge
      subst hge
      refine TL.valYes rfl rfl (Nat.le_of_ble_eq_true rfl) rfl (Nat.le_of_ble_eq_true rfl) rfl (Val.not rfl) ?_
      first
        | refine TL.val rfl rfl (Nat.le_of_ble_eq_true rfl) (Val.pickAnd rfl rfl rfl) ?_
        | refine TL.val rfl rfl (Nat.le_of_ble_eq_true rfl) (Val.pickOr rfl rfl rfl) ?_
        | refine TL.val rfl rfl (Nat.le_of_ble_eq_true rfl) (Val.pick rfl rfl rfl) ?_
      refine TL.nil ?_
      refine AtX.then ?_
      refine TC.env (E' := [(2, _), (3, _), (5, _), (48, _)]) (Sub.cons rfl (Sub.cons rfl (Sub.cons rfl (Sub.cons rfl (Sub.nil _))))) ?_
      first | refine TC.condP rfl (fun c2 => ?_) (fun c2 => ?_) | refine TC.condN rfl (fun c2 => ?_) (fun c2 => ?_) | refine TC.condB rfl (fun c2 => ?_) (fun c2 => ?_) | refine TC.cond rfl (fun c2 => ?_) (fun c2 => ?_)
      · skip
        (exfalso; simp at c2)
      · skip
        refine TC.env (E' := [(2, _), (3, _), (5, _)]) (Sub.cons rfl (Sub.cons rfl (Sub.cons rfl (Sub.nil _)))) ?_
        refine TC.skip ?_
        refine AtX.then ?_
        refine TC.env (E' := [(2, _), (3, _), (5, _)]) (Sub.cons rfl (Sub.cons rfl (Sub.cons rfl (Sub.nil _)))) ?_
        refine TC.seq ?_
        refine TC.region ?_
        first
          | refine TL.val rfl rfl (Nat.le_of_ble_eq_true rfl) (Val.loadAgg 0 rfl ag61 sz61 rfl rfl rfl) ?_
          | refine TL.val rfl rfl (Nat.le_of_ble_eq_true rfl) (Val.loadAgg 1 rfl ag61 sz61 rfl rfl rfl) ?_
          | refine TL.val rfl rfl (Nat.le_of_ble_eq_true rfl) (Val.loadAgg 2 rfl ag61 sz61 rfl rfl rfl) ?_
          | refine TL.val rfl rfl (Nat.le_of_ble_eq_true rfl) (Val.loadAgg 3 rfl ag61 sz61 rfl rfl rfl) ?_
          | refine TL.val rfl rfl (Nat.le_of_ble_eq_true rfl) (Val.loadAgg 4 rfl ag61 sz61 rfl rfl rfl) ?_
          | refine TL.val rfl rfl (Nat.le_of_ble_eq_true rfl) (Val.loadAgg 5 rfl ag61 sz61 rfl rfl rfl) ?_
        first
          | refine TL.does none rfl rfl rfl (Does.store (i := 0) rfl rfl rfl sz61 rfl rfl (by first | exact Nat.le_of_ble_eq_true rfl | decide | omega) rfl rfl) ?_
          | refine TL.does none rfl rfl rfl (Does.store (i := 1) rfl rfl rfl sz61 rfl rfl (by first | exact Nat.le_of_ble_eq_true rfl | decide | omega) rfl rfl) ?_
          | refine TL.does none rfl rfl rfl (Does.store (i := 2) rfl rfl rfl sz61 rfl rfl (by first | exact Nat.le_of_ble_eq_true rfl | decide | omega) rfl rfl) ?_
          | refine TL.does none rfl rfl rfl (Does.store (i := 3) rfl rfl rfl sz61 rfl rfl (by first | exact Nat.le_of_ble_eq_true rfl | decide | omega) rfl rfl) ?_
          | refine TL.does none rfl rfl rfl (Does.store (i := 4) rfl rfl rfl sz61 rfl rfl (by first | exact Nat.le_of_ble_eq_true rfl | decide | omega) rfl rfl) ?_
          | refine TL.does none rfl rfl rfl (Does.store (i := 5) rfl rfl rfl sz61 rfl rfl (by first | exact Nat.le_of_ble_eq_true rfl | decide | omega) rfl rfl) ?_
        rintro _ _ ⟨rfl, rfl⟩
        refine TL.val rfl rfl (Nat.le_of_ble_eq_true rfl) (Val.assign rfl) ?_
        refine TL.nil ?_
        refine AtX.then ?_
        refine TC.env (E' := [(2, _), (3, _)]) (Sub.cons rfl (Sub.cons rfl (Sub.nil _))) ?_
        first
          | refine TC.ret2 (fn := Try.f80) (fun _ _ h => h) rfl (RV.agg (i := 0) rfl ag61 sz61 rfl rfl rfl) (RV.tmp rfl) (M' := M) (by repeat (first | exact ro_refl | exact ro_pre | refine ro_tail ?_ | refine ro_app ?_)) ?_
          | refine TC.ret2 (fn := Try.f80) (fun _ _ h => h) rfl (RV.agg (i := 1) rfl ag61 sz61 rfl rfl rfl) (RV.tmp rfl) (M' := M) (by repeat (first | exact ro_refl | exact ro_pre | refine ro_tail ?_ | refine ro_app ?_)) ?_
          | refine TC.ret2 (fn := Try.f80) (fun _ _ h => h) rfl (RV.agg (i := 2) rfl ag61 sz61 rfl rfl rfl) (RV.tmp rfl) (M' := M) (by repeat (first | exact ro_refl | exact ro_pre | refine ro_tail ?_ | refine ro_app ?_)) ?_
          | refine TC.ret2 (fn := Try.f80) (fun _ _ h => h) rfl (RV.agg (i := 3) rfl ag61 sz61 rfl rfl rfl) (RV.tmp rfl) (M' := M) (by repeat (first | exact ro_refl | exact ro_pre | refine ro_tail ?_ | refine ro_app ?_)) ?_
          | refine TC.ret2 (fn := Try.f80) (fun _ _ h => h) rfl (RV.agg (i := 4) rfl ag61 sz61 rfl rfl rfl) (RV.tmp rfl) (M' := M) (by repeat (first | exact ro_refl | exact ro_pre | refine ro_tail ?_ | refine ro_app ?_)) ?_
          | refine TC.ret2 (fn := Try.f80) (fun _ _ h => h) rfl (RV.agg (i := 5) rfl ag61 sz61 rfl rfl rfl) (RV.tmp rfl) (M' := M) (by repeat (first | exact ro_refl | exact ro_pre | refine ro_tail ?_ | refine ro_app ?_)) ?_
        exact ⟨rfl, rfl⟩

/-- quorumite/mac.From -/
theorem From_fn (l : List UInt8) (A : Option Addr) (n c : Nat) (M : Hp) (hA : RdS M A (bv l)) (hn : n = l.length) (hl : l.length = 16) : FnC Try.prog 81 #[.slice A n c] M (fun v M' => v = .tuple #[.agg #[.int .u64 (get8 l 0 : Nat), .int .u64 (get8 l 8 : Nat)], .int .i64 0] ∧ M = M') := by
  rw [hl] at hn
  subst hn
  refine FnC.intro Try.func81 rfl 24 rfl (by simp) (fun z => ?_)
  refine TC.env (E' := [(0, _)]) (Sub.cons rfl (Sub.nil _)) ?_
  refine TC.seq ?_
  refine TC.region ?_
  refine TL.does (some 2) rfl rfl rfl (Does.alloc ze73 rfl) ?_
  rintro _ _ ⟨b1, rfl, rfl⟩
  refine TL.val rfl rfl (Nat.le_of_ble_eq_true rfl) (Val.assign rfl) ?_
  refine TL.nil ?_
  refine AtX.then ?_
  refine TC.seq ?_
  refine TC.seq ?_
  refine TC.region ?_
  refine TL.val rfl rfl (Nat.le_of_ble_eq_true rfl) (Val.move rfl) ?_
  refine TL.val rfl rfl (Nat.le_of_ble_eq_true rfl) (Val.lenSl rfl rfl sl37) ?_
  refine TL.val rfl rfl (Nat.le_of_ble_eq_true rfl) (Val.neqI rfl rfl) ?_
  refine TL.nil ?_
  refine AtX.then ?_
  refine TC.env (E' := [(0, _), (2, _), (3, _), (8, _)]) (Sub.cons rfl (Sub.cons rfl (Sub.cons rfl (Sub.cons rfl (Sub.nil _))))) ?_
  first | refine TC.condP rfl (fun c1 => ?_) (fun c1 => ?_) | refine TC.condN rfl (fun c1 => ?_) (fun c1 => ?_) | refine TC.condB rfl (fun c1 => ?_) (fun c1 => ?_) | refine TC.cond rfl (fun c1 => ?_) (fun c1 => ?_)
  · skip
    exact absurd rfl c1
  · skip
    refine TC.env (E' := [(0, _), (2, _), (3, _)]) (Sub.cons rfl (Sub.cons rfl (Sub.cons rfl (Sub.nil _)))) ?_
    refine TC.skip ?_
    refine AtX.then ?_
    refine TC.env (E' := [(0, _), (2, _), (3, _)]) (Sub.cons rfl (Sub.cons rfl (Sub.cons rfl (Sub.nil _)))) ?_
    refine TC.seq ?_
    refine TC.region ?_
    refine TL.does (some 4) rfl rfl rfl (Does.alloc ze73 rfl) ?_
    rintro _ _ ⟨b2, rfl, rfl⟩
    refine TL.nil ?_
    refine AtX.then ?_
    refine TC.env (E' := [(0, _), (2, _), (3, _), (4, _)]) (Sub.cons rfl (Sub.cons rfl (Sub.cons rfl (Sub.cons rfl (Sub.nil _))))) ?_
    refine TC.seq ?_
    refine TC.seq ?_
    refine TC.region ?_
    refine TL.val rfl rfl (Nat.le_of_ble_eq_true rfl) (Val.move rfl) ?_
    refine TL.nil ?_
    refine AtX.then ?_
    refine TC.env (E' := [(0, _), (2, _), (3, _), (4, _), (10, _)]) (Sub.cons rfl (Sub.cons rfl (Sub.cons rfl (Sub.cons rfl (Sub.cons rfl (Sub.nil _)))))) ?_
    refine TC.block ?_
    refine TC.loop (ι := Nat) (fun k => [(0, .slice A 16 c), (2, .pointer (some ⟨b1, 0, none⟩)), (3, .int .i64 0), (4, .pointer (some ⟨b2, 0, none⟩)), (10, .int .i64 (k : Nat))]) (fun k => (b2, .cells (fR l k).toArray 73 (0, 0)) :: (b1, .cells #[.int .u64 0, .int .u64 0] 73 (0, 0)) :: M) (fun k => k ≤ 2) (fun k => 2 - k) 0 ?_ (Sub.cons rfl (Sub.cons rfl (Sub.cons rfl (Sub.cons rfl (Sub.cons rfl (Sub.nil _)))))) (fun w h => by rw [fR_0]; exact h) ?_
    · exact Nat.zero_le _
    intro k hk
    refine TC.seq ?_
    refine TC.region ?_
    refine TL.val rfl rfl (Nat.le_of_ble_eq_true rfl) (Val.lss rfl rfl) ?_
    refine TL.nil ?_
    refine AtX.then ?_
    refine TC.seq ?_
    first | refine TC.condP rfl (fun c2 => ?_) (fun c2 => ?_) | refine TC.condN rfl (fun c2 => ?_) (fun c2 => ?_) | refine TC.condB rfl (fun c2 => ?_) (fun c2 => ?_) | refine TC.cond rfl (fun c2 => ?_) (fun c2 => ?_)
    · skip
      refine TC.skip ?_
      refine AtX.then ?_
      refine TC.seq ?_
      refine TC.block ?_
      refine TC.seq ?_
      refine TC.region ?_
      refine TL.val rfl rfl (Nat.le_of_ble_eq_true rfl) (Val.move rfl) ?_
      refine TL.val rfl rfl (Nat.le_of_ble_eq_true rfl) (Val.assign rfl) ?_
      refine TL.nil ?_
      refine AtX.then ?_
      have hk2 : k < 2 := by omega
      refine TC.region ?_
      refine TL.val rfl rfl (Nat.le_of_ble_eq_true rfl) (Val.move rfl) ?_
      refine TL.val rfl rfl (Nat.le_of_ble_eq_true rfl) (Val.move rfl) ?_
      refine TL.val rfl rfl (Nat.le_of_ble_eq_true rfl) (Val.move rfl) ?_
      refine TL.val rfl rfl (Nat.le_of_ble_eq_true rfl) (Val.mul rfl rfl (r := ((8 * k : Nat) : Int)) (by rw [w_i64 (by omega) (by omega)]; push_cast; rfl)) ?_
      refine TL.does (some 18) rfl rfl rfl (Does.callF go106 rfl (sipGet_fn l _ _ _ (8 * k) _ ((hA.cons _).cons _) hl.symm (by omega) (by omega))) ?_
      rintro _ _ ⟨rfl, rfl⟩
      refine TL.val rfl rfl (Nat.le_of_ble_eq_true rfl) (Val.move rfl) ?_
      refine TL.val rfl rfl (Nat.le_of_ble_eq_true rfl) (Val.extract rfl rfl) ?_
      refine TL.val rfl rfl (Nat.le_of_ble_eq_true rfl) (Val.extract rfl rfl) ?_
      refine TL.val rfl rfl (Nat.le_of_ble_eq_true rfl) (Val.indexAddrA (i := k) (r := k) rfl rfl ar73 sz24 rfl hk2 (by omega)) ?_
      refine TL.does none rfl rfl rfl (Does.store (i := 0) rfl rfl rfl sz24 rfl rfl (by simp [fR]; omega) (fR_splice (l := l) hk2) rfl) ?_
      rintro _ _ ⟨rfl, rfl⟩
      refine TL.nil ?_
      refine AtX.blk ?_
      refine AtX.then ?_
      refine TC.env (E' := [(0, _), (2, _), (3, _), (4, _), (5, _), (10, _), (11, _), (12, _), (13, _), (14, _), (15, _), (16, _), (17, _), (18, _), (19, _), (21, _)]) (Sub.cons rfl (Sub.cons rfl (Sub.cons rfl (Sub.cons rfl (Sub.cons rfl (Sub.cons rfl (Sub.cons rfl (Sub.cons rfl (Sub.cons rfl (Sub.cons rfl (Sub.cons rfl (Sub.cons rfl (Sub.cons rfl (Sub.cons rfl (Sub.cons rfl (Sub.cons rfl (Sub.nil _))))))))))))))))) ?_
      refine TC.region ?_
      first
        | refine TL.val rfl rfl (Nat.le_of_ble_eq_true rfl) (Val.add rfl rfl (w_i64 (by omega) (by omega))) ?_
        | refine TL.val rfl rfl (Nat.le_of_ble_eq_true rfl) (Val.add rfl rfl rfl) ?_
      refine TL.val rfl rfl (Nat.le_of_ble_eq_true rfl) (Val.move rfl) ?_
      refine TL.nil ?_
      refine AtX.round (k + 1) ?_ ?_ (Sub.cons rfl (Sub.cons rfl (Sub.cons rfl (Sub.cons rfl (Sub.cons rfl (Sub.nil _)))))) (fun _ h => h)
      · omega
      · omega
    · skip
      refine TC.exit ?_
      refine AtX.seqX ?_
      refine AtX.seqX ?_
      refine AtX.hit ?_
      refine AtX.then ?_
      refine TC.env (E' := [(2, _), (3, _), (4, _)]) (Sub.cons rfl (Sub.cons rfl (Sub.cons rfl (Sub.nil _)))) ?_
      refine TC.seq ?_
      have h2 : k = 2 := by omega
      subst h2
      rw [fR_2]
      refine TC.region ?_
      first
        | refine TL.val rfl rfl (Nat.le_of_ble_eq_true rfl) (Val.loadAgg 0 rfl ag73 sz73 rfl rfl rfl) ?_
        | refine TL.val rfl rfl (Nat.le_of_ble_eq_true rfl) (Val.loadAgg 1 rfl ag73 sz73 rfl rfl rfl) ?_
        | refine TL.val rfl rfl (Nat.le_of_ble_eq_true rfl) (Val.loadAgg 2 rfl ag73 sz73 rfl rfl rfl) ?_
        | refine TL.val rfl rfl (Nat.le_of_ble_eq_true rfl) (Val.loadAgg 3 rfl ag73 sz73 rfl rfl rfl) ?_
        | refine TL.val rfl rfl (Nat.le_of_ble_eq_true rfl) (Val.loadAgg 4 rfl ag73 sz73 rfl rfl rfl) ?_
        | refine TL.val rfl rfl (Nat.le_of_ble_eq_true rfl) (Val.loadAgg 5 rfl ag73 sz73 rfl rfl rfl) ?_
      first
        | refine TL.does none rfl rfl rfl (Does.store (i := 0) rfl rfl rfl sz73 rfl rfl (by first | exact Nat.le_of_ble_eq_true rfl | decide | omega) rfl rfl) ?_
        | refine TL.does none rfl rfl rfl (Does.store (i := 1) rfl rfl rfl sz73 rfl rfl (by first | exact Nat.le_of_ble_eq_true rfl | decide | omega) rfl rfl) ?_
        | refine TL.does none rfl rfl rfl (Does.store (i := 2) rfl rfl rfl sz73 rfl rfl (by first | exact Nat.le_of_ble_eq_true rfl | decide | omega) rfl rfl) ?_
        | refine TL.does none rfl rfl rfl (Does.store (i := 3) rfl rfl rfl sz73 rfl rfl (by first | exact Nat.le_of_ble_eq_true rfl | decide | omega) rfl rfl) ?_
        | refine TL.does none rfl rfl rfl (Does.store (i := 4) rfl rfl rfl sz73 rfl rfl (by first | exact Nat.le_of_ble_eq_true rfl | decide | omega) rfl rfl) ?_
        | refine TL.does none rfl rfl rfl (Does.store (i := 5) rfl rfl rfl sz73 rfl rfl (by first | exact Nat.le_of_ble_eq_true rfl | decide | omega) rfl rfl) ?_
      rintro _ _ ⟨rfl, rfl⟩
      refine TL.val rfl rfl (Nat.le_of_ble_eq_true rfl) (Val.assign rfl) ?_
      refine TL.nil ?_
      refine AtX.then ?_
      refine TC.env (E' := [(2, _), (3, _)]) (Sub.cons rfl (Sub.cons rfl (Sub.nil _))) ?_
      first
        | refine TC.ret2 (fn := Try.f81) (fun _ _ h => h) rfl (RV.agg (i := 0) rfl ag73 sz73 rfl rfl rfl) (RV.tmp rfl) (M' := M) (by repeat (first | exact ro_refl | exact ro_pre | refine ro_tail ?_ | refine ro_app ?_)) ?_
        | refine TC.ret2 (fn := Try.f81) (fun _ _ h => h) rfl (RV.agg (i := 1) rfl ag73 sz73 rfl rfl rfl) (RV.tmp rfl) (M' := M) (by repeat (first | exact ro_refl | exact ro_pre | refine ro_tail ?_ | refine ro_app ?_)) ?_
        | refine TC.ret2 (fn := Try.f81) (fun _ _ h => h) rfl (RV.agg (i := 2) rfl ag73 sz73 rfl rfl rfl) (RV.tmp rfl) (M' := M) (by repeat (first | exact ro_refl | exact ro_pre | refine ro_tail ?_ | refine ro_app ?_)) ?_
        | refine TC.ret2 (fn := Try.f81) (fun _ _ h => h) rfl (RV.agg (i := 3) rfl ag73 sz73 rfl rfl rfl) (RV.tmp rfl) (M' := M) (by repeat (first | exact ro_refl | exact ro_pre | refine ro_tail ?_ | refine ro_app ?_)) ?_
        | refine TC.ret2 (fn := Try.f81) (fun _ _ h => h) rfl (RV.agg (i := 4) rfl ag73 sz73 rfl rfl rfl) (RV.tmp rfl) (M' := M) (by repeat (first | exact ro_refl | exact ro_pre | refine ro_tail ?_ | refine ro_app ?_)) ?_
        | refine TC.ret2 (fn := Try.f81) (fun _ _ h => h) rfl (RV.agg (i := 5) rfl ag73 sz73 rfl rfl rfl) (RV.tmp rfl) (M' := M) (by repeat (first | exact ro_refl | exact ro_pre | refine ro_tail ?_ | refine ro_app ?_)) ?_
      exact ⟨rfl, rfl⟩

/-- quorumite/mac.Same -/
theorem Same_fn (s t : K2) (M : Hp) : FnC Try.prog 39 #[.agg #[.int .u64 s.a, .int .u64 s.b], .agg #[.int .u64 t.a, .int .u64 t.b]] M (fun v M' => v = .bool (decide (bitsOf .or .u64 (xor64 s.a t.a) (xor64 s.b t.b) = 0)) ∧ M = M') := by
  refine FnC.intro Try.func39 rfl 17 rfl (by simp) (fun z => ?_)
  refine TC.env (E' := [(0, _), (1, _)]) (Sub.cons rfl (Sub.cons rfl (Sub.nil _))) ?_
  refine TC.seq ?_
  refine TC.region ?_
  refine TL.does (some 2) rfl rfl rfl (Does.box rfl rfl) ?_
  rintro _ _ ⟨b1, rfl, rfl⟩
  refine TL.does (some 3) rfl rfl rfl (Does.box rfl rfl) ?_
  rintro _ _ ⟨b2, rfl, rfl⟩
  refine TL.val rfl rfl (Nat.le_of_ble_eq_true rfl) (Val.assign rfl) ?_
  refine TL.nil ?_
  refine AtX.then ?_
  refine TC.env (E' := [(2, _), (3, _), (4, _)]) (Sub.cons rfl (Sub.cons rfl (Sub.cons rfl (Sub.nil _)))) ?_
  refine TC.seq ?_
  refine TC.region ?_
  refine TL.val rfl rfl (Nat.le_of_ble_eq_true rfl) (Val.indexAddrA (i := 0) rfl rfl ar73 sz24 rfl (by first | decide | omega) rfl) ?_
  first
    | refine TL.val rfl rfl (Nat.le_of_ble_eq_true rfl) (Val.load 0 rfl ag24 rfl rfl) ?_
    | refine TL.val rfl rfl (Nat.le_of_ble_eq_true rfl) (Val.load 1 rfl ag24 rfl rfl) ?_
    | refine TL.val rfl rfl (Nat.le_of_ble_eq_true rfl) (Val.load 2 rfl ag24 rfl rfl) ?_
    | refine TL.val rfl rfl (Nat.le_of_ble_eq_true rfl) (Val.load 3 rfl ag24 rfl rfl) ?_
    | refine TL.val rfl rfl (Nat.le_of_ble_eq_true rfl) (Val.load 4 rfl ag24 rfl rfl) ?_
    | refine TL.val rfl rfl (Nat.le_of_ble_eq_true rfl) (Val.load 5 rfl ag24 rfl rfl) ?_
  refine TL.val rfl rfl (Nat.le_of_ble_eq_true rfl) (Val.indexAddrA (i := 0) rfl rfl ar73 sz24 rfl (by first | decide | omega) rfl) ?_
  first
    | refine TL.val rfl rfl (Nat.le_of_ble_eq_true rfl) (Val.load 0 rfl ag24 rfl rfl) ?_
    | refine TL.val rfl rfl (Nat.le_of_ble_eq_true rfl) (Val.load 1 rfl ag24 rfl rfl) ?_
    | refine TL.val rfl rfl (Nat.le_of_ble_eq_true rfl) (Val.load 2 rfl ag24 rfl rfl) ?_
    | refine TL.val rfl rfl (Nat.le_of_ble_eq_true rfl) (Val.load 3 rfl ag24 rfl rfl) ?_
    | refine TL.val rfl rfl (Nat.le_of_ble_eq_true rfl) (Val.load 4 rfl ag24 rfl rfl) ?_
    | refine TL.val rfl rfl (Nat.le_of_ble_eq_true rfl) (Val.load 5 rfl ag24 rfl rfl) ?_
  refine TL.val rfl rfl (Nat.le_of_ble_eq_true rfl) (Val.xor rfl rfl rfl) ?_
  refine TL.val rfl rfl (Nat.le_of_ble_eq_true rfl) (Val.indexAddrA (i := 1) rfl rfl ar73 sz24 rfl (by first | decide | omega) rfl) ?_
  first
    | refine TL.val rfl rfl (Nat.le_of_ble_eq_true rfl) (Val.load 0 rfl ag24 rfl rfl) ?_
    | refine TL.val rfl rfl (Nat.le_of_ble_eq_true rfl) (Val.load 1 rfl ag24 rfl rfl) ?_
    | refine TL.val rfl rfl (Nat.le_of_ble_eq_true rfl) (Val.load 2 rfl ag24 rfl rfl) ?_
    | refine TL.val rfl rfl (Nat.le_of_ble_eq_true rfl) (Val.load 3 rfl ag24 rfl rfl) ?_
    | refine TL.val rfl rfl (Nat.le_of_ble_eq_true rfl) (Val.load 4 rfl ag24 rfl rfl) ?_
    | refine TL.val rfl rfl (Nat.le_of_ble_eq_true rfl) (Val.load 5 rfl ag24 rfl rfl) ?_
  refine TL.val rfl rfl (Nat.le_of_ble_eq_true rfl) (Val.indexAddrA (i := 1) rfl rfl ar73 sz24 rfl (by first | decide | omega) rfl) ?_
  first
    | refine TL.val rfl rfl (Nat.le_of_ble_eq_true rfl) (Val.load 0 rfl ag24 rfl rfl) ?_
    | refine TL.val rfl rfl (Nat.le_of_ble_eq_true rfl) (Val.load 1 rfl ag24 rfl rfl) ?_
    | refine TL.val rfl rfl (Nat.le_of_ble_eq_true rfl) (Val.load 2 rfl ag24 rfl rfl) ?_
    | refine TL.val rfl rfl (Nat.le_of_ble_eq_true rfl) (Val.load 3 rfl ag24 rfl rfl) ?_
    | refine TL.val rfl rfl (Nat.le_of_ble_eq_true rfl) (Val.load 4 rfl ag24 rfl rfl) ?_
    | refine TL.val rfl rfl (Nat.le_of_ble_eq_true rfl) (Val.load 5 rfl ag24 rfl rfl) ?_
  refine TL.val rfl rfl (Nat.le_of_ble_eq_true rfl) (Val.xor rfl rfl rfl) ?_
  refine TL.val rfl rfl (Nat.le_of_ble_eq_true rfl) (Val.or rfl rfl rfl) ?_
  refine TL.val rfl rfl (Nat.le_of_ble_eq_true rfl) (Val.eqlI rfl rfl) ?_
  refine TL.val rfl rfl (Nat.le_of_ble_eq_true rfl) (Val.assign rfl) ?_
  refine TL.nil ?_
  refine AtX.then ?_
  refine TC.env (E' := [(4, _)]) (Sub.cons rfl (Sub.nil _)) ?_
  refine TC.ret1 (fn := Try.f39) (fun _ _ h => h) rfl (RV.tmp rfl) (M' := M) (by repeat (first | exact ro_refl | exact ro_pre | refine ro_tail ?_ | refine ro_app ?_)) ?_
  exact ⟨rfl, rfl⟩

end Go.Proofs.Ytphoapajlcaoeaa
/- walks -/
set_option linter.unusedVariables false
set_option linter.unusedSimpArgs false
set_option maxRecDepth 100000
set_option maxHeartbeats 4000000
namespace Go.Proofs.Ytphoapajlcaoeaa
open Go Go.X
theorem perm_4 {a b c d : Nat × Obj} {M : Hp} : (a :: b :: c :: d :: M).Perm (c :: d :: a :: b :: M) := by
  have h : ([a, b] ++ ([c, d] ++ M)).Perm ([c, d] ++ ([a, b] ++ M)) := by
    rw [← List.append_assoc, ← List.append_assoc]
    exact List.perm_append_comm.append_right M
  exact h
/-- quorumite/wire.Split -/
theorem Split_fn (m : Ms) (tl : List UInt8) (A : Option Addr) (n c : Nat) (M : Hp) (hA : RdS M A (bv (putM m ++ tl))) (hn : n = 48) (hc : 48 ≤ c) (ht : tl.length = 16) (hm : mayM m = true) : FnC Try.prog 42 #[.slice A n c] M (fun v M' => ∃ σ, v = .tuple #[.agg #[.int .i64 m.kind, .int .i64 m.who, .int .i64 m.gen, .int .i64 m.seq, .int .i64 m.epoch, .int .i64 m.value, .int .i64 m.metric], .slice (slA σ) 32 (slC σ), .agg #[.int .u64 (get8 tl 0 : Nat), .int .u64 (get8 tl 8 : Nat)], .int .i64 0] ∧ slOk σ 1 32 (bv (putM m)) ∧ M' = slH σ 5 (bv (putM m)) ++ M) := by
  subst hn
  obtain ⟨bA, oA, rfl, hR⟩ := RdS.get hA (by simp; omega)
  have hA1 : RdS M (some ⟨bA, oA, none⟩) (bv (putM m)) := by have h := rdS_takeB hA 32; rw [List.take_left' (by simp)] at h; exact h
  have hA2 : RdS M (some ⟨bA, oA + 32, none⟩) (bv tl) := by have h := hR.drop 32; rw [← bv_drop, List.drop_left' (by simp)] at h; exact .some h
  refine FnC.intro Try.func42 rfl 37 rfl (by simp) (fun z => ?_)
  refine TC.env (E' := [(0, _)]) (Sub.cons rfl (Sub.nil _)) ?_
  refine TC.seq ?_
  refine TC.region ?_
  refine TL.does (some 2) rfl rfl rfl (Does.alloc ze61 rfl) ?_
  rintro _ _ ⟨b1, rfl, rfl⟩
  refine TL.val rfl rfl (Nat.le_of_ble_eq_true rfl) (Val.assign rfl) ?_
  refine TL.does (some 4) rfl rfl rfl (Does.alloc ze73 rfl) ?_
  rintro _ _ ⟨b2, rfl, rfl⟩
  refine TL.val rfl rfl (Nat.le_of_ble_eq_true rfl) (Val.assign rfl) ?_
  refine TL.nil ?_
  refine AtX.then ?_
  refine TC.seq ?_
  refine TC.seq ?_
  refine TC.region ?_
  refine TL.val rfl rfl (Nat.le_of_ble_eq_true rfl) (Val.move rfl) ?_
  refine TL.val rfl rfl (Nat.le_of_ble_eq_true rfl) (Val.lenSl rfl rfl sl37) ?_
  refine TL.val rfl rfl (Nat.le_of_ble_eq_true rfl) (Val.neqI rfl rfl) ?_
  refine TL.nil ?_
  refine AtX.then ?_
  refine TC.env (E' := [(0, _), (2, _), (3, _), (4, _), (5, _), (12, _)]) (Sub.cons rfl (Sub.cons rfl (Sub.cons rfl (Sub.cons rfl (Sub.cons rfl (Sub.cons rfl (Sub.nil _))))))) ?_
  first | refine TC.condP rfl (fun c1 => ?_) (fun c1 => ?_) | refine TC.condN rfl (fun c1 => ?_) (fun c1 => ?_) | refine TC.condB rfl (fun c1 => ?_) (fun c1 => ?_) | refine TC.cond rfl (fun c1 => ?_) (fun c1 => ?_)
  · skip
    exact absurd rfl c1
  · skip
    refine TC.env (E' := [(0, _), (2, _), (3, _), (4, _), (5, _)]) (Sub.cons rfl (Sub.cons rfl (Sub.cons rfl (Sub.cons rfl (Sub.cons rfl (Sub.nil _)))))) ?_
    refine TC.skip ?_
    refine AtX.then ?_
    refine TC.env (E' := [(0, _), (2, _), (3, _), (4, _), (5, _)]) (Sub.cons rfl (Sub.cons rfl (Sub.cons rfl (Sub.cons rfl (Sub.cons rfl (Sub.nil _)))))) ?_
    refine TC.seq ?_
    refine TC.region ?_
    refine TL.val rfl rfl (Nat.le_of_ble_eq_true rfl) (Val.move rfl) ?_
    refine TL.val rfl rfl (Nat.le_of_ble_eq_true rfl) (Val.sliceTo (j := 32) rfl sl37 sz5 rfl rfl (by omega)) ?_
    refine TL.does (some 18) rfl rfl rfl (Does.callF go80 rfl (wGet_fn m _ _ _ _ ((hA1.cons _).cons _) rfl hm)) ?_
    rintro _ _ ⟨rfl, rfl⟩
    refine TL.val rfl rfl (Nat.le_of_ble_eq_true rfl) (Val.move rfl) ?_
    refine TL.val rfl rfl (Nat.le_of_ble_eq_true rfl) (Val.extract rfl rfl) ?_
    refine TL.val rfl rfl (Nat.le_of_ble_eq_true rfl) (Val.extract rfl rfl) ?_
    refine TL.does (some 6) rfl rfl rfl (Does.alloc ze61 rfl) ?_
    rintro _ _ ⟨b6, rfl, rfl⟩
    first
      | refine TL.does none rfl rfl rfl (Does.store (i := 0) rfl rfl rfl sz61 rfl rfl (by first | exact Nat.le_of_ble_eq_true rfl | decide | omega) rfl rfl) ?_
      | refine TL.does none rfl rfl rfl (Does.store (i := 1) rfl rfl rfl sz61 rfl rfl (by first | exact Nat.le_of_ble_eq_true rfl | decide | omega) rfl rfl) ?_
      | refine TL.does none rfl rfl rfl (Does.store (i := 2) rfl rfl rfl sz61 rfl rfl (by first | exact Nat.le_of_ble_eq_true rfl | decide | omega) rfl rfl) ?_
      | refine TL.does none rfl rfl rfl (Does.store (i := 3) rfl rfl rfl sz61 rfl rfl (by first | exact Nat.le_of_ble_eq_true rfl | decide | omega) rfl rfl) ?_
      | refine TL.does none rfl rfl rfl (Does.store (i := 4) rfl rfl rfl sz61 rfl rfl (by first | exact Nat.le_of_ble_eq_true rfl | decide | omega) rfl rfl) ?_
      | refine TL.does none rfl rfl rfl (Does.store (i := 5) rfl rfl rfl sz61 rfl rfl (by first | exact Nat.le_of_ble_eq_true rfl | decide | omega) rfl rfl) ?_
    rintro _ _ ⟨rfl, rfl⟩
    refine TL.val rfl rfl (Nat.le_of_ble_eq_true rfl) (Val.assign rfl) ?_
    refine TL.nil ?_
    refine AtX.then ?_
    refine TC.env (E' := [(0, _), (2, _), (3, _), (4, _), (5, _), (6, _), (7, _)]) (Sub.cons rfl (Sub.cons rfl (Sub.cons rfl (Sub.cons rfl (Sub.cons rfl (Sub.cons rfl (Sub.cons rfl (Sub.nil _)))))))) ?_
    refine TC.seq ?_
    refine TC.seq ?_
    refine TC.region ?_
    refine TL.val rfl rfl (Nat.le_of_ble_eq_true rfl) (Val.move rfl) ?_
    refine TL.val rfl rfl (Nat.le_of_ble_eq_true rfl) (Val.neqI rfl rfl) ?_
    refine TL.nil ?_
    refine AtX.then ?_
    refine TC.env (E' := [(0, _), (2, _), (3, _), (4, _), (5, _), (6, _), (7, _), (22, _)]) (Sub.cons rfl (Sub.cons rfl (Sub.cons rfl (Sub.cons rfl (Sub.cons rfl (Sub.cons rfl (Sub.cons rfl (Sub.cons rfl (Sub.nil _))))))))) ?_
    first | refine TC.condP rfl (fun c2 => ?_) (fun c2 => ?_) | refine TC.condN rfl (fun c2 => ?_) (fun c2 => ?_) | refine TC.condB rfl (fun c2 => ?_) (fun c2 => ?_) | refine TC.cond rfl (fun c2 => ?_) (fun c2 => ?_)
    · skip
      exact absurd rfl c2
    · skip
      refine TC.env (E' := [(0, _), (2, _), (3, _), (4, _), (5, _), (6, _)]) (Sub.cons rfl (Sub.cons rfl (Sub.cons rfl (Sub.cons rfl (Sub.cons rfl (Sub.cons rfl (Sub.nil _))))))) ?_
      refine TC.skip ?_
      refine AtX.then ?_
      refine TC.env (E' := [(0, _), (2, _), (3, _), (4, _), (5, _), (6, _)]) (Sub.cons rfl (Sub.cons rfl (Sub.cons rfl (Sub.cons rfl (Sub.cons rfl (Sub.cons rfl (Sub.nil _))))))) ?_
      refine TC.seq ?_
      refine TC.region ?_
      refine TL.val rfl rfl (Nat.le_of_ble_eq_true rfl) (Val.move rfl) ?_
      refine TL.val rfl rfl (Nat.le_of_ble_eq_true rfl) (Val.sliceAt (i := 32) (j := 48) rfl sl37 sz5 rfl rfl rfl rfl (by omega) (by omega) (by omega) rfl) ?_
      refine TL.does (some 29) rfl rfl rfl (Does.callF go81 rfl (From_fn tl _ _ _ _ (((hA2.cons _).cons _).cons _) ht.symm ht)) ?_
      rintro _ _ ⟨rfl, rfl⟩
      refine TL.val rfl rfl (Nat.le_of_ble_eq_true rfl) (Val.move rfl) ?_
      refine TL.val rfl rfl (Nat.le_of_ble_eq_true rfl) (Val.extract rfl rfl) ?_
      refine TL.val rfl rfl (Nat.le_of_ble_eq_true rfl) (Val.extract rfl rfl) ?_
      refine TL.does (some 8) rfl rfl rfl (Does.alloc ze73 rfl) ?_
      rintro _ _ ⟨b8_, rfl, rfl⟩
      first
        | refine TL.does none rfl rfl rfl (Does.store (i := 0) rfl rfl rfl sz73 rfl rfl (by first | exact Nat.le_of_ble_eq_true rfl | decide | omega) rfl rfl) ?_
        | refine TL.does none rfl rfl rfl (Does.store (i := 1) rfl rfl rfl sz73 rfl rfl (by first | exact Nat.le_of_ble_eq_true rfl | decide | omega) rfl rfl) ?_
        | refine TL.does none rfl rfl rfl (Does.store (i := 2) rfl rfl rfl sz73 rfl rfl (by first | exact Nat.le_of_ble_eq_true rfl | decide | omega) rfl rfl) ?_
        | refine TL.does none rfl rfl rfl (Does.store (i := 3) rfl rfl rfl sz73 rfl rfl (by first | exact Nat.le_of_ble_eq_true rfl | decide | omega) rfl rfl) ?_
        | refine TL.does none rfl rfl rfl (Does.store (i := 4) rfl rfl rfl sz73 rfl rfl (by first | exact Nat.le_of_ble_eq_true rfl | decide | omega) rfl rfl) ?_
        | refine TL.does none rfl rfl rfl (Does.store (i := 5) rfl rfl rfl sz73 rfl rfl (by first | exact Nat.le_of_ble_eq_true rfl | decide | omega) rfl rfl) ?_
      rintro _ _ ⟨rfl, rfl⟩
      refine TL.val rfl rfl (Nat.le_of_ble_eq_true rfl) (Val.assign rfl) ?_
      refine TL.nil ?_
      refine AtX.then ?_
      refine TC.env (E' := [(0, _), (2, _), (3, _), (4, _), (5, _), (6, _), (8, _)]) (Sub.cons rfl (Sub.cons rfl (Sub.cons rfl (Sub.cons rfl (Sub.cons rfl (Sub.cons rfl (Sub.cons rfl (Sub.nil _)))))))) ?_
      refine TC.seq ?_
      refine TC.heap (M' := (b2, .cells #[.int .u64 0, .int .u64 0] 73 (0, 0)) :: (b1, .cells #[.int .i64 0, .int .i64 0, .int .i64 0, .int .i64 0, .int .i64 0, .int .i64 0, .int .i64 0] 61 (0, 0)) :: (b8_, .cells #[.int .u64 (get8 tl 0 : Nat), .int .u64 (get8 tl 8 : Nat)] 73 (0, 0)) :: (b6, .cells #[.int .i64 m.kind, .int .i64 m.who, .int .i64 m.gen, .int .i64 m.seq, .int .i64 m.epoch, .int .i64 m.value, .int .i64 m.metric] 61 (0, 0)) :: M) (fun w h => h.perm (perm_4)) ?_
      refine TC.drawL ((b8_, .cells #[.int .u64 (get8 tl 0 : Nat), .int .u64 (get8 tl 8 : Nat)] 73 (0, 0)) :: (b6, .cells #[.int .i64 m.kind, .int .i64 m.who, .int .i64 m.gen, .int .i64 m.seq, .int .i64 m.epoch, .int .i64 m.value, .int .i64 m.metric] 61 (0, 0)) :: M) mixed 9 ?_
      first
        | refine TA.tk 0 1 rfl rfl rfl (Val.loadAgg 0 rfl ag61 sz61 rfl rfl rfl) ?_
        | refine TA.tk 0 1 rfl rfl rfl (Val.loadAgg 1 rfl ag61 sz61 rfl rfl rfl) ?_
        | refine TA.tk 0 1 rfl rfl rfl (Val.loadAgg 2 rfl ag61 sz61 rfl rfl rfl) ?_
        | refine TA.tk 0 1 rfl rfl rfl (Val.loadAgg 3 rfl ag61 sz61 rfl rfl rfl) ?_
        | refine TA.tk 0 1 rfl rfl rfl (Val.loadAgg 4 rfl ag61 sz61 rfl rfl rfl) ?_
        | refine TA.tk 0 1 rfl rfl rfl (Val.loadAgg 5 rfl ag61 sz61 rfl rfl rfl) ?_
      refine TA.tk 1 3 rfl rfl rfl (Val.move rfl) ?_
      refine TA.tk 2 7 rfl rfl rfl (Val.sliceTo (j := 32) rfl sl37 sz5 rfl rfl (by omega)) ?_
      first
        | refine TA.tk 4 23 rfl rfl rfl (Val.loadAgg 0 rfl ag73 sz73 rfl rfl rfl) ?_
        | refine TA.tk 4 23 rfl rfl rfl (Val.loadAgg 1 rfl ag73 sz73 rfl rfl rfl) ?_
        | refine TA.tk 4 23 rfl rfl rfl (Val.loadAgg 2 rfl ag73 sz73 rfl rfl rfl) ?_
        | refine TA.tk 4 23 rfl rfl rfl (Val.loadAgg 3 rfl ag73 sz73 rfl rfl rfl) ?_
        | refine TA.tk 4 23 rfl rfl rfl (Val.loadAgg 4 rfl ag73 sz73 rfl rfl rfl) ?_
        | refine TA.tk 4 23 rfl rfl rfl (Val.loadAgg 5 rfl ag73 sz73 rfl rfl rfl) ?_
      refine TA.one 3 (by kernel_rfl) ?_
      refine TO.dz 31 (some 35) rfl rfl rfl rfl (Does.callF go82 rfl (Clone_fn (putM m) ⟨bA, oA, none⟩ _ _ _ ((((hA1.cons _).cons _).cons _).cons _) (by simp) (by simp))) ?_
      rintro _ _ ⟨σ, rfl, hok, rfl⟩
      rw [putM_len] at hok ⊢
      obtain ⟨bc, cc, spc, rfl, hcc⟩ := hok.some (by omega)
      refine roK ?_
      refine TA.one 5 (by kernel_rfl) ?_
      first
        | refine TO.dz 63 none rfl rfl rfl rfl (Does.store (i := 0) rfl rfl rfl sz61 rfl rfl (by first | exact Nat.le_of_ble_eq_true rfl | decide | omega) rfl rfl) ?_
        | refine TO.dz 63 none rfl rfl rfl rfl (Does.store (i := 1) rfl rfl rfl sz61 rfl rfl (by first | exact Nat.le_of_ble_eq_true rfl | decide | omega) rfl rfl) ?_
        | refine TO.dz 63 none rfl rfl rfl rfl (Does.store (i := 2) rfl rfl rfl sz61 rfl rfl (by first | exact Nat.le_of_ble_eq_true rfl | decide | omega) rfl rfl) ?_
        | refine TO.dz 63 none rfl rfl rfl rfl (Does.store (i := 3) rfl rfl rfl sz61 rfl rfl (by first | exact Nat.le_of_ble_eq_true rfl | decide | omega) rfl rfl) ?_
        | refine TO.dz 63 none rfl rfl rfl rfl (Does.store (i := 4) rfl rfl rfl sz61 rfl rfl (by first | exact Nat.le_of_ble_eq_true rfl | decide | omega) rfl rfl) ?_
        | refine TO.dz 63 none rfl rfl rfl rfl (Does.store (i := 5) rfl rfl rfl sz61 rfl rfl (by first | exact Nat.le_of_ble_eq_true rfl | decide | omega) rfl rfl) ?_
      rintro _ _ ⟨rfl, rfl⟩
      refine roK ?_
      refine TA.tk 6 127 rfl rfl rfl (Val.assign rfl) ?_
      refine TA.one 7 (by kernel_rfl) ?_
      first
        | refine TO.dz 255 none rfl rfl rfl rfl (Does.store (i := 0) rfl rfl rfl sz73 rfl rfl (by first | exact Nat.le_of_ble_eq_true rfl | decide | omega) rfl rfl) ?_
        | refine TO.dz 255 none rfl rfl rfl rfl (Does.store (i := 1) rfl rfl rfl sz73 rfl rfl (by first | exact Nat.le_of_ble_eq_true rfl | decide | omega) rfl rfl) ?_
        | refine TO.dz 255 none rfl rfl rfl rfl (Does.store (i := 2) rfl rfl rfl sz73 rfl rfl (by first | exact Nat.le_of_ble_eq_true rfl | decide | omega) rfl rfl) ?_
        | refine TO.dz 255 none rfl rfl rfl rfl (Does.store (i := 3) rfl rfl rfl sz73 rfl rfl (by first | exact Nat.le_of_ble_eq_true rfl | decide | omega) rfl rfl) ?_
        | refine TO.dz 255 none rfl rfl rfl rfl (Does.store (i := 4) rfl rfl rfl sz73 rfl rfl (by first | exact Nat.le_of_ble_eq_true rfl | decide | omega) rfl rfl) ?_
        | refine TO.dz 255 none rfl rfl rfl rfl (Does.store (i := 5) rfl rfl rfl sz73 rfl rfl (by first | exact Nat.le_of_ble_eq_true rfl | decide | omega) rfl rfl) ?_
      rintro _ _ ⟨rfl, rfl⟩
      refine roK ?_
      refine TA.tk 8 511 rfl rfl rfl (Val.assign rfl) ?_
      refine TA.done (by kernel_rfl) ?_
      refine AtX.then ?_
      refine TC.env (E' := [(2, _), (3, _), (4, _), (5, _)]) (Sub.cons rfl (Sub.cons rfl (Sub.cons rfl (Sub.cons rfl (Sub.nil _))))) ?_
      first
        | refine TC.ret4 (fn := Try.f42) (fun _ _ h => h) rfl (RV.agg (i := 0) rfl ag61 sz61 rfl rfl rfl) (RV.tmp rfl) (RV.agg (i := 0) rfl ag73 sz73 rfl rfl rfl) (RV.tmp rfl) (M' := (bc, row 5 (bv (putM m) ++ spc)) :: M) (fun w h => ro_del 1 rfl w (ro_del 1 rfl w (ro_del 1 rfl w (ro_del 1 rfl w h)))) ?_
        | refine TC.ret4 (fn := Try.f42) (fun _ _ h => h) rfl (RV.agg (i := 0) rfl ag61 sz61 rfl rfl rfl) (RV.tmp rfl) (RV.agg (i := 1) rfl ag73 sz73 rfl rfl rfl) (RV.tmp rfl) (M' := (bc, row 5 (bv (putM m) ++ spc)) :: M) (fun w h => ro_del 1 rfl w (ro_del 1 rfl w (ro_del 1 rfl w (ro_del 1 rfl w h)))) ?_
        | refine TC.ret4 (fn := Try.f42) (fun _ _ h => h) rfl (RV.agg (i := 0) rfl ag61 sz61 rfl rfl rfl) (RV.tmp rfl) (RV.agg (i := 2) rfl ag73 sz73 rfl rfl rfl) (RV.tmp rfl) (M' := (bc, row 5 (bv (putM m) ++ spc)) :: M) (fun w h => ro_del 1 rfl w (ro_del 1 rfl w (ro_del 1 rfl w (ro_del 1 rfl w h)))) ?_
        | refine TC.ret4 (fn := Try.f42) (fun _ _ h => h) rfl (RV.agg (i := 0) rfl ag61 sz61 rfl rfl rfl) (RV.tmp rfl) (RV.agg (i := 3) rfl ag73 sz73 rfl rfl rfl) (RV.tmp rfl) (M' := (bc, row 5 (bv (putM m) ++ spc)) :: M) (fun w h => ro_del 1 rfl w (ro_del 1 rfl w (ro_del 1 rfl w (ro_del 1 rfl w h)))) ?_
        | refine TC.ret4 (fn := Try.f42) (fun _ _ h => h) rfl (RV.agg (i := 0) rfl ag61 sz61 rfl rfl rfl) (RV.tmp rfl) (RV.agg (i := 4) rfl ag73 sz73 rfl rfl rfl) (RV.tmp rfl) (M' := (bc, row 5 (bv (putM m) ++ spc)) :: M) (fun w h => ro_del 1 rfl w (ro_del 1 rfl w (ro_del 1 rfl w (ro_del 1 rfl w h)))) ?_
        | refine TC.ret4 (fn := Try.f42) (fun _ _ h => h) rfl (RV.agg (i := 0) rfl ag61 sz61 rfl rfl rfl) (RV.tmp rfl) (RV.agg (i := 5) rfl ag73 sz73 rfl rfl rfl) (RV.tmp rfl) (M' := (bc, row 5 (bv (putM m) ++ spc)) :: M) (fun w h => ro_del 1 rfl w (ro_del 1 rfl w (ro_del 1 rfl w (ro_del 1 rfl w h)))) ?_
        | refine TC.ret4 (fn := Try.f42) (fun _ _ h => h) rfl (RV.agg (i := 1) rfl ag61 sz61 rfl rfl rfl) (RV.tmp rfl) (RV.agg (i := 0) rfl ag73 sz73 rfl rfl rfl) (RV.tmp rfl) (M' := (bc, row 5 (bv (putM m) ++ spc)) :: M) (fun w h => ro_del 1 rfl w (ro_del 1 rfl w (ro_del 1 rfl w (ro_del 1 rfl w h)))) ?_
        | refine TC.ret4 (fn := Try.f42) (fun _ _ h => h) rfl (RV.agg (i := 1) rfl ag61 sz61 rfl rfl rfl) (RV.tmp rfl) (RV.agg (i := 1) rfl ag73 sz73 rfl rfl rfl) (RV.tmp rfl) (M' := (bc, row 5 (bv (putM m) ++ spc)) :: M) (fun w h => ro_del 1 rfl w (ro_del 1 rfl w (ro_del 1 rfl w (ro_del 1 rfl w h)))) ?_
        | refine TC.ret4 (fn := Try.f42) (fun _ _ h => h) rfl (RV.agg (i := 1) rfl ag61 sz61 rfl rfl rfl) (RV.tmp rfl) (RV.agg (i := 2) rfl ag73 sz73 rfl rfl rfl) (RV.tmp rfl) (M' := (bc, row 5 (bv (putM m) ++ spc)) :: M) (fun w h => ro_del 1 rfl w (ro_del 1 rfl w (ro_del 1 rfl w (ro_del 1 rfl w h)))) ?_
        | refine TC.ret4 (fn := Try.f42) (fun _ _ h => h) rfl (RV.agg (i := 1) rfl ag61 sz61 rfl rfl rfl) (RV.tmp rfl) (RV.agg (i := 3) rfl ag73 sz73 rfl rfl rfl) (RV.tmp rfl) (M' := (bc, row 5 (bv (putM m) ++ spc)) :: M) (fun w h => ro_del 1 rfl w (ro_del 1 rfl w (ro_del 1 rfl w (ro_del 1 rfl w h)))) ?_
        | refine TC.ret4 (fn := Try.f42) (fun _ _ h => h) rfl (RV.agg (i := 1) rfl ag61 sz61 rfl rfl rfl) (RV.tmp rfl) (RV.agg (i := 4) rfl ag73 sz73 rfl rfl rfl) (RV.tmp rfl) (M' := (bc, row 5 (bv (putM m) ++ spc)) :: M) (fun w h => ro_del 1 rfl w (ro_del 1 rfl w (ro_del 1 rfl w (ro_del 1 rfl w h)))) ?_
        | refine TC.ret4 (fn := Try.f42) (fun _ _ h => h) rfl (RV.agg (i := 1) rfl ag61 sz61 rfl rfl rfl) (RV.tmp rfl) (RV.agg (i := 5) rfl ag73 sz73 rfl rfl rfl) (RV.tmp rfl) (M' := (bc, row 5 (bv (putM m) ++ spc)) :: M) (fun w h => ro_del 1 rfl w (ro_del 1 rfl w (ro_del 1 rfl w (ro_del 1 rfl w h)))) ?_
        | refine TC.ret4 (fn := Try.f42) (fun _ _ h => h) rfl (RV.agg (i := 2) rfl ag61 sz61 rfl rfl rfl) (RV.tmp rfl) (RV.agg (i := 0) rfl ag73 sz73 rfl rfl rfl) (RV.tmp rfl) (M' := (bc, row 5 (bv (putM m) ++ spc)) :: M) (fun w h => ro_del 1 rfl w (ro_del 1 rfl w (ro_del 1 rfl w (ro_del 1 rfl w h)))) ?_
        | refine TC.ret4 (fn := Try.f42) (fun _ _ h => h) rfl (RV.agg (i := 2) rfl ag61 sz61 rfl rfl rfl) (RV.tmp rfl) (RV.agg (i := 1) rfl ag73 sz73 rfl rfl rfl) (RV.tmp rfl) (M' := (bc, row 5 (bv (putM m) ++ spc)) :: M) (fun w h => ro_del 1 rfl w (ro_del 1 rfl w (ro_del 1 rfl w (ro_del 1 rfl w h)))) ?_
        | refine TC.ret4 (fn := Try.f42) (fun _ _ h => h) rfl (RV.agg (i := 2) rfl ag61 sz61 rfl rfl rfl) (RV.tmp rfl) (RV.agg (i := 2) rfl ag73 sz73 rfl rfl rfl) (RV.tmp rfl) (M' := (bc, row 5 (bv (putM m) ++ spc)) :: M) (fun w h => ro_del 1 rfl w (ro_del 1 rfl w (ro_del 1 rfl w (ro_del 1 rfl w h)))) ?_
        | refine TC.ret4 (fn := Try.f42) (fun _ _ h => h) rfl (RV.agg (i := 2) rfl ag61 sz61 rfl rfl rfl) (RV.tmp rfl) (RV.agg (i := 3) rfl ag73 sz73 rfl rfl rfl) (RV.tmp rfl) (M' := (bc, row 5 (bv (putM m) ++ spc)) :: M) (fun w h => ro_del 1 rfl w (ro_del 1 rfl w (ro_del 1 rfl w (ro_del 1 rfl w h)))) ?_
        | refine TC.ret4 (fn := Try.f42) (fun _ _ h => h) rfl (RV.agg (i := 2) rfl ag61 sz61 rfl rfl rfl) (RV.tmp rfl) (RV.agg (i := 4) rfl ag73 sz73 rfl rfl rfl) (RV.tmp rfl) (M' := (bc, row 5 (bv (putM m) ++ spc)) :: M) (fun w h => ro_del 1 rfl w (ro_del 1 rfl w (ro_del 1 rfl w (ro_del 1 rfl w h)))) ?_
        | refine TC.ret4 (fn := Try.f42) (fun _ _ h => h) rfl (RV.agg (i := 2) rfl ag61 sz61 rfl rfl rfl) (RV.tmp rfl) (RV.agg (i := 5) rfl ag73 sz73 rfl rfl rfl) (RV.tmp rfl) (M' := (bc, row 5 (bv (putM m) ++ spc)) :: M) (fun w h => ro_del 1 rfl w (ro_del 1 rfl w (ro_del 1 rfl w (ro_del 1 rfl w h)))) ?_
        | refine TC.ret4 (fn := Try.f42) (fun _ _ h => h) rfl (RV.agg (i := 3) rfl ag61 sz61 rfl rfl rfl) (RV.tmp rfl) (RV.agg (i := 0) rfl ag73 sz73 rfl rfl rfl) (RV.tmp rfl) (M' := (bc, row 5 (bv (putM m) ++ spc)) :: M) (fun w h => ro_del 1 rfl w (ro_del 1 rfl w (ro_del 1 rfl w (ro_del 1 rfl w h)))) ?_
        | refine TC.ret4 (fn := Try.f42) (fun _ _ h => h) rfl (RV.agg (i := 3) rfl ag61 sz61 rfl rfl rfl) (RV.tmp rfl) (RV.agg (i := 1) rfl ag73 sz73 rfl rfl rfl) (RV.tmp rfl) (M' := (bc, row 5 (bv (putM m) ++ spc)) :: M) (fun w h => ro_del 1 rfl w (ro_del 1 rfl w (ro_del 1 rfl w (ro_del 1 rfl w h)))) ?_
        | refine TC.ret4 (fn := Try.f42) (fun _ _ h => h) rfl (RV.agg (i := 3) rfl ag61 sz61 rfl rfl rfl) (RV.tmp rfl) (RV.agg (i := 2) rfl ag73 sz73 rfl rfl rfl) (RV.tmp rfl) (M' := (bc, row 5 (bv (putM m) ++ spc)) :: M) (fun w h => ro_del 1 rfl w (ro_del 1 rfl w (ro_del 1 rfl w (ro_del 1 rfl w h)))) ?_
        | refine TC.ret4 (fn := Try.f42) (fun _ _ h => h) rfl (RV.agg (i := 3) rfl ag61 sz61 rfl rfl rfl) (RV.tmp rfl) (RV.agg (i := 3) rfl ag73 sz73 rfl rfl rfl) (RV.tmp rfl) (M' := (bc, row 5 (bv (putM m) ++ spc)) :: M) (fun w h => ro_del 1 rfl w (ro_del 1 rfl w (ro_del 1 rfl w (ro_del 1 rfl w h)))) ?_
        | refine TC.ret4 (fn := Try.f42) (fun _ _ h => h) rfl (RV.agg (i := 3) rfl ag61 sz61 rfl rfl rfl) (RV.tmp rfl) (RV.agg (i := 4) rfl ag73 sz73 rfl rfl rfl) (RV.tmp rfl) (M' := (bc, row 5 (bv (putM m) ++ spc)) :: M) (fun w h => ro_del 1 rfl w (ro_del 1 rfl w (ro_del 1 rfl w (ro_del 1 rfl w h)))) ?_
        | refine TC.ret4 (fn := Try.f42) (fun _ _ h => h) rfl (RV.agg (i := 3) rfl ag61 sz61 rfl rfl rfl) (RV.tmp rfl) (RV.agg (i := 5) rfl ag73 sz73 rfl rfl rfl) (RV.tmp rfl) (M' := (bc, row 5 (bv (putM m) ++ spc)) :: M) (fun w h => ro_del 1 rfl w (ro_del 1 rfl w (ro_del 1 rfl w (ro_del 1 rfl w h)))) ?_
        | refine TC.ret4 (fn := Try.f42) (fun _ _ h => h) rfl (RV.agg (i := 4) rfl ag61 sz61 rfl rfl rfl) (RV.tmp rfl) (RV.agg (i := 0) rfl ag73 sz73 rfl rfl rfl) (RV.tmp rfl) (M' := (bc, row 5 (bv (putM m) ++ spc)) :: M) (fun w h => ro_del 1 rfl w (ro_del 1 rfl w (ro_del 1 rfl w (ro_del 1 rfl w h)))) ?_
        | refine TC.ret4 (fn := Try.f42) (fun _ _ h => h) rfl (RV.agg (i := 4) rfl ag61 sz61 rfl rfl rfl) (RV.tmp rfl) (RV.agg (i := 1) rfl ag73 sz73 rfl rfl rfl) (RV.tmp rfl) (M' := (bc, row 5 (bv (putM m) ++ spc)) :: M) (fun w h => ro_del 1 rfl w (ro_del 1 rfl w (ro_del 1 rfl w (ro_del 1 rfl w h)))) ?_
        | refine TC.ret4 (fn := Try.f42) (fun _ _ h => h) rfl (RV.agg (i := 4) rfl ag61 sz61 rfl rfl rfl) (RV.tmp rfl) (RV.agg (i := 2) rfl ag73 sz73 rfl rfl rfl) (RV.tmp rfl) (M' := (bc, row 5 (bv (putM m) ++ spc)) :: M) (fun w h => ro_del 1 rfl w (ro_del 1 rfl w (ro_del 1 rfl w (ro_del 1 rfl w h)))) ?_
        | refine TC.ret4 (fn := Try.f42) (fun _ _ h => h) rfl (RV.agg (i := 4) rfl ag61 sz61 rfl rfl rfl) (RV.tmp rfl) (RV.agg (i := 3) rfl ag73 sz73 rfl rfl rfl) (RV.tmp rfl) (M' := (bc, row 5 (bv (putM m) ++ spc)) :: M) (fun w h => ro_del 1 rfl w (ro_del 1 rfl w (ro_del 1 rfl w (ro_del 1 rfl w h)))) ?_
        | refine TC.ret4 (fn := Try.f42) (fun _ _ h => h) rfl (RV.agg (i := 4) rfl ag61 sz61 rfl rfl rfl) (RV.tmp rfl) (RV.agg (i := 4) rfl ag73 sz73 rfl rfl rfl) (RV.tmp rfl) (M' := (bc, row 5 (bv (putM m) ++ spc)) :: M) (fun w h => ro_del 1 rfl w (ro_del 1 rfl w (ro_del 1 rfl w (ro_del 1 rfl w h)))) ?_
        | refine TC.ret4 (fn := Try.f42) (fun _ _ h => h) rfl (RV.agg (i := 4) rfl ag61 sz61 rfl rfl rfl) (RV.tmp rfl) (RV.agg (i := 5) rfl ag73 sz73 rfl rfl rfl) (RV.tmp rfl) (M' := (bc, row 5 (bv (putM m) ++ spc)) :: M) (fun w h => ro_del 1 rfl w (ro_del 1 rfl w (ro_del 1 rfl w (ro_del 1 rfl w h)))) ?_
        | refine TC.ret4 (fn := Try.f42) (fun _ _ h => h) rfl (RV.agg (i := 5) rfl ag61 sz61 rfl rfl rfl) (RV.tmp rfl) (RV.agg (i := 0) rfl ag73 sz73 rfl rfl rfl) (RV.tmp rfl) (M' := (bc, row 5 (bv (putM m) ++ spc)) :: M) (fun w h => ro_del 1 rfl w (ro_del 1 rfl w (ro_del 1 rfl w (ro_del 1 rfl w h)))) ?_
        | refine TC.ret4 (fn := Try.f42) (fun _ _ h => h) rfl (RV.agg (i := 5) rfl ag61 sz61 rfl rfl rfl) (RV.tmp rfl) (RV.agg (i := 1) rfl ag73 sz73 rfl rfl rfl) (RV.tmp rfl) (M' := (bc, row 5 (bv (putM m) ++ spc)) :: M) (fun w h => ro_del 1 rfl w (ro_del 1 rfl w (ro_del 1 rfl w (ro_del 1 rfl w h)))) ?_
        | refine TC.ret4 (fn := Try.f42) (fun _ _ h => h) rfl (RV.agg (i := 5) rfl ag61 sz61 rfl rfl rfl) (RV.tmp rfl) (RV.agg (i := 2) rfl ag73 sz73 rfl rfl rfl) (RV.tmp rfl) (M' := (bc, row 5 (bv (putM m) ++ spc)) :: M) (fun w h => ro_del 1 rfl w (ro_del 1 rfl w (ro_del 1 rfl w (ro_del 1 rfl w h)))) ?_
        | refine TC.ret4 (fn := Try.f42) (fun _ _ h => h) rfl (RV.agg (i := 5) rfl ag61 sz61 rfl rfl rfl) (RV.tmp rfl) (RV.agg (i := 3) rfl ag73 sz73 rfl rfl rfl) (RV.tmp rfl) (M' := (bc, row 5 (bv (putM m) ++ spc)) :: M) (fun w h => ro_del 1 rfl w (ro_del 1 rfl w (ro_del 1 rfl w (ro_del 1 rfl w h)))) ?_
        | refine TC.ret4 (fn := Try.f42) (fun _ _ h => h) rfl (RV.agg (i := 5) rfl ag61 sz61 rfl rfl rfl) (RV.tmp rfl) (RV.agg (i := 4) rfl ag73 sz73 rfl rfl rfl) (RV.tmp rfl) (M' := (bc, row 5 (bv (putM m) ++ spc)) :: M) (fun w h => ro_del 1 rfl w (ro_del 1 rfl w (ro_del 1 rfl w (ro_del 1 rfl w h)))) ?_
        | refine TC.ret4 (fn := Try.f42) (fun _ _ h => h) rfl (RV.agg (i := 5) rfl ag61 sz61 rfl rfl rfl) (RV.tmp rfl) (RV.agg (i := 5) rfl ag73 sz73 rfl rfl rfl) (RV.tmp rfl) (M' := (bc, row 5 (bv (putM m) ++ spc)) :: M) (fun w h => ro_del 1 rfl w (ro_del 1 rfl w (ro_del 1 rfl w (ro_del 1 rfl w h)))) ?_
      exact ⟨some (bc, cc, spc), rfl, hok, rfl⟩

end Go.Proofs.Ytphoapajlcaoeaa
/- walks -/
set_option linter.unusedVariables false
set_option linter.unusedSimpArgs false
set_option maxRecDepth 100000
set_option maxHeartbeats 4000000
namespace Go.Proofs.Ytphoapajlcaoeaa
open Go Go.X
structure On where
  gen : Int
  since : Int
abbrev On.cs (x : On) : List Value := [.int .i64 x.gen, .int .i64 x.since]
theorem On.cs_len (x : On) : x.cs.length = 2 := rfl
theorem zrep_on (n : Nat) : zrep (Value.agg #[.int .i64 0, .int .i64 0]).cells.toList n = (List.replicate n (⟨0, 0⟩ : On)).flatMap On.cs := by
  induction n with
  | zero => rfl
  | succ n ih =>
    simp only [zrep, ih, List.replicate_succ, List.flatMap_cons]
    rfl
abbrev ringO (b : Nat) (s : Int) (lb n : Nat) (gr asked : Int) : Nat × Obj := (b, .cells #[.int .u64 s, .slice (some ⟨lb, 0, none⟩) n n, .int .i64 gr, .int .i64 asked] 152 (0, 0))
abbrev repO (b : Nat) (w top bits ref : Int) : Nat × Obj := (b, .cells #[.int .i64 w, .int .i64 top, .int .u64 bits, .int .i64 ref] 154 (0, 0))
/-- quorumite/ring.New -/
theorem rNew_fn (s : Int) (n : Nat) (gr : Int) (M : Hp) (hn : 1 ≤ n ∧ n ≤ 16) (hg : 1 ≤ gr ∧ gr ≤ 100) : FnC Try.prog 60 #[.int .u64 s, .int .i64 (n : Nat), .int .i64 gr] M (fun v M' => ∃ b lb, v = .pointer (some ⟨b, 0, none⟩) ∧ M' = ringO b s lb n gr 0 :: (lb, row 161 ((List.replicate n (⟨0, 0⟩ : On)).flatMap On.cs)) :: M) := by
  refine FnC.intro Try.func60 rfl 27 rfl (by simp) (fun z => ?_)
  refine TC.env (E' := [(0, _), (1, _), (2, _)]) (Sub.cons rfl (Sub.cons rfl (Sub.cons rfl (Sub.nil _)))) ?_
  refine TC.seq ?_
  refine TC.region ?_
  refine TL.val rfl rfl (Nat.le_of_ble_eq_true rfl) (Val.assign rfl) ?_
  refine TL.nil ?_
  refine AtX.then ?_
  refine TC.seq ?_
  refine TC.seq ?_
  refine TC.region ?_
  refine TL.val rfl rfl (Nat.le_of_ble_eq_true rfl) (Val.move rfl) ?_
  refine TL.val rfl rfl (Nat.le_of_ble_eq_true rfl) (Val.lss rfl rfl) ?_
  refine TL.val rfl rfl (Nat.le_of_ble_eq_true rfl) (Val.move rfl) ?_
  refine TL.gen (fun g1 hg1 => ?_)
  refine TL.gval rfl rfl (Nat.le_of_ble_eq_true rfl) rfl (Nat.le_of_ble_eq_true rfl) rfl (fun hg => by subst hg; exact (Val.move rfl)) ?_
  refine TL.gval rfl rfl (Nat.le_of_ble_eq_true rfl) rfl (Nat.le_of_ble_eq_true rfl) rfl (fun hg => by subst hg; exact (Val.gtr rfl rfl)) ?_
  first
    | refine TL.val rfl rfl (Nat.le_of_ble_eq_true rfl) (Val.pickAnd rfl rfl rfl) ?_
    | refine TL.val rfl rfl (Nat.le_of_ble_eq_true rfl) (Val.pickOr rfl rfl rfl) ?_
    | refine TL.val rfl rfl (Nat.le_of_ble_eq_true rfl) (Val.pick rfl rfl rfl) ?_
  refine TL.val rfl rfl (Nat.le_of_ble_eq_true rfl) (Val.move rfl) ?_
  refine TL.gen (fun g2 hg2 => ?_)
  refine TL.gval rfl rfl (Nat.le_of_ble_eq_true rfl) rfl (Nat.le_of_ble_eq_true rfl) rfl (fun hg => by subst hg; exact (Val.move rfl)) ?_
  refine TL.gval rfl rfl (Nat.le_of_ble_eq_true rfl) rfl (Nat.le_of_ble_eq_true rfl) rfl (fun hg => by subst hg; exact (Val.lss rfl rfl)) ?_
  first
    | refine TL.val rfl rfl (Nat.le_of_ble_eq_true rfl) (Val.pickAnd rfl rfl rfl) ?_
    | refine TL.val rfl rfl (Nat.le_of_ble_eq_true rfl) (Val.pickOr rfl rfl rfl) ?_
    | refine TL.val rfl rfl (Nat.le_of_ble_eq_true rfl) (Val.pick rfl rfl rfl) ?_
  refine TL.val rfl rfl (Nat.le_of_ble_eq_true rfl) (Val.move rfl) ?_
  refine TL.gen (fun g3 hg3 => ?_)
  refine TL.gval rfl rfl (Nat.le_of_ble_eq_true rfl) rfl (Nat.le_of_ble_eq_true rfl) rfl (fun hg => by subst hg; exact (Val.move rfl)) ?_
  refine TL.gval rfl rfl (Nat.le_of_ble_eq_true rfl) rfl (Nat.le_of_ble_eq_true rfl) rfl (fun hg => by subst hg; exact (Val.gtr rfl rfl)) ?_
  first
    | refine TL.val rfl rfl (Nat.le_of_ble_eq_true rfl) (Val.pickAnd rfl rfl rfl) ?_
    | refine TL.val rfl rfl (Nat.le_of_ble_eq_true rfl) (Val.pickOr rfl rfl rfl) ?_
    | refine TL.val rfl rfl (Nat.le_of_ble_eq_true rfl) (Val.pick rfl rfl rfl) ?_
  refine TL.nil ?_
  refine AtX.then ?_
  refine TC.env (E' := [(0, _), (1, _), (2, _), (6, _), (20, _)]) (Sub.cons rfl (Sub.cons rfl (Sub.cons rfl (Sub.cons rfl (Sub.cons rfl (Sub.nil _)))))) ?_
  first | refine TC.condP rfl (fun c1 => ?_) (fun c1 => ?_) | refine TC.condN rfl (fun c1 => ?_) (fun c1 => ?_) | refine TC.condB rfl (fun c1 => ?_) (fun c1 => ?_) | refine TC.cond rfl (fun c1 => ?_) (fun c1 => ?_)
  · skip
    (exfalso; grind)
  · skip
    refine TC.env (E' := [(0, _), (1, _), (2, _), (6, _)]) (Sub.cons rfl (Sub.cons rfl (Sub.cons rfl (Sub.cons rfl (Sub.nil _))))) ?_
    refine TC.skip ?_
    refine AtX.then ?_
    refine TC.env (E' := [(0, _), (1, _), (2, _), (6, _)]) (Sub.cons rfl (Sub.cons rfl (Sub.cons rfl (Sub.cons rfl (Sub.nil _))))) ?_
    refine TC.seq ?_
    refine TC.region ?_
    refine TL.val rfl rfl (Nat.le_of_ble_eq_true rfl) (Val.move rfl) ?_
    refine TL.val rfl rfl (Nat.le_of_ble_eq_true rfl) (Val.move rfl) ?_
    refine TL.does (some 23) rfl rfl rfl (Does.makeSlice (n := n) (c := n) rfl rfl sl150 sz161 by161 ze161 rfl rfl rfl (by omega) (by omega) (by omega)) ?_
    rintro _ _ ⟨bl4, rfl, rfl⟩
    rw [show zrep (Value.agg #[.int .i64 0, .int .i64 0]).cells.toList n = (List.replicate n (⟨0, 0⟩ : On)).flatMap On.cs from zrep_on n]
    refine TL.val rfl rfl (Nat.le_of_ble_eq_true rfl) (Val.move rfl) ?_
    refine TL.val rfl rfl (Nat.le_of_ble_eq_true rfl) (Val.buildS (cs := [.int .u64 s, .slice (some ⟨bl4, 0, none⟩) n n, .int .i64 gr, .int .i64 0]) pl152 ze152 rfl rfl) ?_
    refine TL.does (some 26) rfl rfl rfl (Does.box rfl rfl) ?_
    rintro _ _ ⟨b4, rfl, rfl⟩
    refine TL.val rfl rfl (Nat.le_of_ble_eq_true rfl) (Val.assign rfl) ?_
    refine TL.nil ?_
    refine AtX.then ?_
    refine TC.env (E' := [(6, _)]) (Sub.cons rfl (Sub.nil _)) ?_
    refine TC.ret1 (fn := Try.f60) (fun _ _ h => h) rfl (RV.tmp rfl) (fun _ h => h) ?_
    exact ⟨_, bl4, rfl, rfl⟩

/-- quorumite/replay.New -/
theorem pNew_fn (w : Int) (M : Hp) (hw : 1 ≤ w ∧ w ≤ 64) : FnC Try.prog 61 #[.int .i64 w] M (fun v M' => ∃ b, v = .pointer (some ⟨b, 0, none⟩) ∧ M' = repO b w 0 0 0 :: M) := by
  refine FnC.intro Try.func61 rfl 12 rfl (by simp) (fun z => ?_)
  refine TC.env (E' := [(0, _)]) (Sub.cons rfl (Sub.nil _)) ?_
  refine TC.seq ?_
  refine TC.region ?_
  refine TL.val rfl rfl (Nat.le_of_ble_eq_true rfl) (Val.assign rfl) ?_
  refine TL.nil ?_
  refine AtX.then ?_
  refine TC.seq ?_
  refine TC.seq ?_
  refine TC.region ?_
  refine TL.val rfl rfl (Nat.le_of_ble_eq_true rfl) (Val.move rfl) ?_
  refine TL.val rfl rfl (Nat.le_of_ble_eq_true rfl) (Val.lss rfl rfl) ?_
  refine TL.val rfl rfl (Nat.le_of_ble_eq_true rfl) (Val.move rfl) ?_
  refine TL.gen (fun g1 hg1 => ?_)
  refine TL.gval rfl rfl (Nat.le_of_ble_eq_true rfl) rfl (Nat.le_of_ble_eq_true rfl) rfl (fun hg => by subst hg; exact (Val.move rfl)) ?_
  refine TL.gval rfl rfl (Nat.le_of_ble_eq_true rfl) rfl (Nat.le_of_ble_eq_true rfl) rfl (fun hg => by subst hg; exact (Val.gtr rfl rfl)) ?_
  first
    | refine TL.val rfl rfl (Nat.le_of_ble_eq_true rfl) (Val.pickAnd rfl rfl rfl) ?_
    | refine TL.val rfl rfl (Nat.le_of_ble_eq_true rfl) (Val.pickOr rfl rfl rfl) ?_
    | refine TL.val rfl rfl (Nat.le_of_ble_eq_true rfl) (Val.pick rfl rfl rfl) ?_
  refine TL.nil ?_
  refine AtX.then ?_
  refine TC.env (E' := [(0, _), (2, _), (8, _)]) (Sub.cons rfl (Sub.cons rfl (Sub.cons rfl (Sub.nil _)))) ?_
  first | refine TC.condP rfl (fun c1 => ?_) (fun c1 => ?_) | refine TC.condN rfl (fun c1 => ?_) (fun c1 => ?_) | refine TC.condB rfl (fun c1 => ?_) (fun c1 => ?_) | refine TC.cond rfl (fun c1 => ?_) (fun c1 => ?_)
  · skip
    (exfalso; grind)
  · skip
    refine TC.env (E' := [(0, _), (2, _)]) (Sub.cons rfl (Sub.cons rfl (Sub.nil _))) ?_
    refine TC.skip ?_
    refine AtX.then ?_
    refine TC.env (E' := [(0, _), (2, _)]) (Sub.cons rfl (Sub.cons rfl (Sub.nil _))) ?_
    refine TC.seq ?_
    refine TC.region ?_
    refine TL.val rfl rfl (Nat.le_of_ble_eq_true rfl) (Val.move rfl) ?_
    refine TL.val rfl rfl (Nat.le_of_ble_eq_true rfl) (Val.buildS pl154 ze154 rfl rfl) ?_
    refine TL.does (some 11) rfl rfl rfl (Does.box rfl rfl) ?_
    rintro _ _ ⟨b2, rfl, rfl⟩
    refine TL.val rfl rfl (Nat.le_of_ble_eq_true rfl) (Val.assign rfl) ?_
    refine TL.nil ?_
    refine AtX.then ?_
    refine TC.env (E' := [(2, _)]) (Sub.cons rfl (Sub.nil _)) ?_
    refine TC.ret1 (fn := Try.f61) (fun _ _ h => h) rfl (RV.tmp rfl) (fun _ h => h) ?_
    exact ⟨_, rfl, rfl⟩

/-- (*quorumite/ring.Ring).at -/
theorem at_fn (b lb i : Nat) (s : Int) (n : Nat) (gr asked : Int) (M : Hp) (hi : M[i]? = some (ringO b s lb n gr asked)) (k : Nat) (hk : k < n) : FnC Try.prog 98 #[.pointer (some ⟨b, 0, none⟩), .int .i64 (k : Nat)] M (fun v M' => v = .tuple #[.pointer (some ⟨lb, 2 * k, none⟩), .int .i64 0] ∧ M = M') := by
  refine FnC.intro Try.func98 rfl 27 rfl (by simp) (fun z => ?_)
  refine TC.env (E' := [(0, _), (1, _)]) (Sub.cons rfl (Sub.cons rfl (Sub.nil _))) ?_
  refine TC.seq ?_
  refine TC.region ?_
  refine TL.val rfl rfl (Nat.le_of_ble_eq_true rfl) (Val.assign rfl) ?_
  refine TL.val rfl rfl (Nat.le_of_ble_eq_true rfl) (Val.assign rfl) ?_
  refine TL.nil ?_
  refine AtX.then ?_
  refine TC.seq ?_
  refine TC.block ?_
  refine TC.seq ?_
  refine TC.region ?_
  refine TL.val rfl rfl (Nat.le_of_ble_eq_true rfl) (Val.move rfl) ?_
  refine TL.val rfl rfl (Nat.le_of_ble_eq_true rfl) (Val.eqlNil rfl rfl pt113) ?_
  refine TL.val rfl rfl (Nat.le_of_ble_eq_true rfl) (Val.assign rfl) ?_
  refine TL.nil ?_
  refine AtX.then ?_
  refine TC.env (E' := [(0, _), (1, _), (4, _), (5, _), (6, _)]) (Sub.cons rfl (Sub.cons rfl (Sub.cons rfl (Sub.cons rfl (Sub.cons rfl (Sub.nil _)))))) ?_
  first | refine TC.condP rfl (fun c1 => ?_) (fun c1 => ?_) | refine TC.condN rfl (fun c1 => ?_) (fun c1 => ?_) | refine TC.condB rfl (fun c1 => ?_) (fun c1 => ?_) | refine TC.cond rfl (fun c1 => ?_) (fun c1 => ?_)
  · skip
    (exfalso; simp at c1)
  · skip
    refine TC.env (E' := [(0, _), (1, _), (4, _), (5, _)]) (Sub.cons rfl (Sub.cons rfl (Sub.cons rfl (Sub.cons rfl (Sub.nil _))))) ?_
    refine TC.seq ?_
    refine TC.region ?_
    refine TL.val rfl rfl (Nat.le_of_ble_eq_true rfl) (Val.move rfl) ?_
    refine TL.val rfl rfl (Nat.le_of_ble_eq_true rfl) (Val.lss rfl rfl) ?_
    refine TL.val rfl rfl (Nat.le_of_ble_eq_true rfl) (Val.move rfl) ?_
    refine TL.gen (fun g1 hg1 => ?_)
    refine TL.gval rfl rfl (Nat.le_of_ble_eq_true rfl) rfl (Nat.le_of_ble_eq_true rfl) rfl (fun hg => by subst hg; exact (Val.move rfl)) ?_
    refine TL.gval rfl rfl (Nat.le_of_ble_eq_true rfl) rfl (Nat.le_of_ble_eq_true rfl) rfl (fun hg => by subst hg; exact (Val.move rfl)) ?_
    refine TL.gval rfl rfl (Nat.le_of_ble_eq_true rfl) rfl (Nat.le_of_ble_eq_true rfl) rfl (fun hg => by subst hg; exact (Val.nilCheck rfl)) ?_
    refine TL.gval rfl rfl (Nat.le_of_ble_eq_true rfl) rfl (Nat.le_of_ble_eq_true rfl) rfl (fun hg => by subst hg; exact (Val.fieldAddr rfl fl152_1 sz150 rfl)) ?_
    refine TL.gval rfl rfl (Nat.le_of_ble_eq_true rfl) rfl (Nat.le_of_ble_eq_true rfl) rfl (fun hg => by subst hg; exact (Val.load i rfl ag150 hi rfl)) ?_
    refine TL.gval rfl rfl (Nat.le_of_ble_eq_true rfl) rfl (Nat.le_of_ble_eq_true rfl) rfl (fun hg => by subst hg; exact (Val.lenSl rfl rfl sl150)) ?_
    refine TL.gval rfl rfl (Nat.le_of_ble_eq_true rfl) rfl (Nat.le_of_ble_eq_true rfl) rfl (fun hg => by subst hg; exact (Val.geq rfl rfl)) ?_
    first
      | refine TL.val rfl rfl (Nat.le_of_ble_eq_true rfl) (Val.pickAnd rfl rfl rfl) ?_
      | refine TL.val rfl rfl (Nat.le_of_ble_eq_true rfl) (Val.pickOr rfl rfl rfl) ?_
      | refine TL.val rfl rfl (Nat.le_of_ble_eq_true rfl) (Val.pick rfl rfl rfl) ?_
    refine TL.val rfl rfl (Nat.le_of_ble_eq_true rfl) (Val.assign rfl) ?_
    refine TL.nil ?_
    refine AtX.then ?_
    refine TC.env (E' := [(0, _), (1, _), (4, _), (5, _), (9, _)]) (Sub.cons rfl (Sub.cons rfl (Sub.cons rfl (Sub.cons rfl (Sub.cons rfl (Sub.nil _)))))) ?_
    first | refine TC.condP rfl (fun c2 => ?_) (fun c2 => ?_) | refine TC.condN rfl (fun c2 => ?_) (fun c2 => ?_) | refine TC.condB rfl (fun c2 => ?_) (fun c2 => ?_) | refine TC.cond rfl (fun c2 => ?_) (fun c2 => ?_)
    · skip
      (exfalso; grind)
    · skip
      refine TC.env (E' := [(0, _), (1, _), (4, _), (5, _)]) (Sub.cons rfl (Sub.cons rfl (Sub.cons rfl (Sub.cons rfl (Sub.nil _))))) ?_
      refine TC.skip ?_
      refine AtX.blk ?_
      refine AtX.then ?_
      refine TC.env (E' := [(0, _), (1, _), (4, _), (5, _)]) (Sub.cons rfl (Sub.cons rfl (Sub.cons rfl (Sub.cons rfl (Sub.nil _))))) ?_
      refine TC.seq ?_
      refine TC.region ?_
      refine TL.val rfl rfl (Nat.le_of_ble_eq_true rfl) (Val.move rfl) ?_
      refine TL.val rfl rfl (Nat.le_of_ble_eq_true rfl) (Val.nilCheck rfl) ?_
      refine TL.val rfl rfl (Nat.le_of_ble_eq_true rfl) (Val.fieldAddr rfl fl152_1 sz150 rfl) ?_
      refine TL.val rfl rfl (Nat.le_of_ble_eq_true rfl) (Val.load i rfl ag150 hi rfl) ?_
      refine TL.val rfl rfl (Nat.le_of_ble_eq_true rfl) (Val.move rfl) ?_
      refine TL.val rfl rfl (Nat.le_of_ble_eq_true rfl) (Val.indexAddr (i := k) (r := 2 * k) rfl rfl sl150 sz161 rfl hk (by omega)) ?_
      refine TL.val rfl rfl (Nat.le_of_ble_eq_true rfl) (Val.assign rfl) ?_
      refine TL.val rfl rfl (Nat.le_of_ble_eq_true rfl) (Val.assign rfl) ?_
      refine TL.nil ?_
      refine AtX.then ?_
      refine TC.env (E' := [(4, _), (5, _)]) (Sub.cons rfl (Sub.cons rfl (Sub.nil _))) ?_
      refine TC.ret2 (fn := Try.f98) (fun _ _ h => h) rfl (RV.tmp rfl) (RV.tmp rfl) (fun _ h => h) ?_
      exact ⟨rfl, rfl⟩

/-- (*quorumite/ring.Ring).Gen -/
theorem rGen_fn (b lb i : Nat) (s : Int) (n : Nat) (gr asked : Int) (M : Hp) (hi : M[i]? = some (ringO b s lb n gr asked)) (l : List On) (hl : RdS M (some ⟨lb, 0, none⟩) (l.flatMap On.cs)) (hn : n = l.length) (k : Nat) (x : On) (hx : l[k]? = some x)  : FnC Try.prog 71 #[.pointer (some ⟨b, 0, none⟩), .int .i64 (k : Nat)] M (fun v M' => v = .int .i64 x.gen ∧ M = M') := by
  have hk : k < n := by rw [hn]; exact (List.getElem?_eq_some_iff.1 hx).1
  obtain ⟨bL, oL, hLe, hR⟩ : ∃ bL oL : Nat, (some ⟨lb, 0, none⟩ : Option Addr) = some ⟨bL, oL, none⟩ ∧ Rd M ⟨bL, oL, none⟩ (l.flatMap On.cs) := RdS.get hl (by rw [flat_len On.cs_len]; omega)
  cases hLe
  refine FnC.intro Try.func71 rfl 19 rfl (by simp) (fun z => ?_)
  refine TC.env (E' := [(0, _), (1, _)]) (Sub.cons rfl (Sub.cons rfl (Sub.nil _))) ?_
  refine TC.seq ?_
  refine TC.region ?_
  refine TL.val rfl rfl (Nat.le_of_ble_eq_true rfl) (Val.assign rfl) ?_
  refine TL.nil ?_
  refine AtX.then ?_
  refine TC.seq ?_
  refine TC.region ?_
  refine TL.val rfl rfl (Nat.le_of_ble_eq_true rfl) (Val.move rfl) ?_
  refine TL.val rfl rfl (Nat.le_of_ble_eq_true rfl) (Val.move rfl) ?_
  refine TL.does (some 10) rfl rfl rfl (Does.callF go98 rfl (at_fn b lb i s n gr asked _ hi k hk)) ?_
  rintro _ _ ⟨rfl, rfl⟩
  refine TL.val rfl rfl (Nat.le_of_ble_eq_true rfl) (Val.move rfl) ?_
  refine TL.val rfl rfl (Nat.le_of_ble_eq_true rfl) (Val.extract rfl rfl) ?_
  refine TL.val rfl rfl (Nat.le_of_ble_eq_true rfl) (Val.extract rfl rfl) ?_
  refine TL.val rfl rfl (Nat.le_of_ble_eq_true rfl) (Val.assign rfl) ?_
  refine TL.val rfl rfl (Nat.le_of_ble_eq_true rfl) (Val.assign rfl) ?_
  refine TL.nil ?_
  refine AtX.then ?_
  refine TC.env (E' := [(4, _), (5, _), (6, _)]) (Sub.cons rfl (Sub.cons rfl (Sub.cons rfl (Sub.nil _)))) ?_
  refine TC.seq ?_
  refine TC.seq ?_
  refine TC.region ?_
  refine TL.val rfl rfl (Nat.le_of_ble_eq_true rfl) (Val.move rfl) ?_
  refine TL.val rfl rfl (Nat.le_of_ble_eq_true rfl) (Val.neqI rfl rfl) ?_
  refine TL.nil ?_
  refine AtX.then ?_
  refine TC.env (E' := [(4, _), (5, _), (14, _)]) (Sub.cons rfl (Sub.cons rfl (Sub.cons rfl (Sub.nil _)))) ?_
  first | refine TC.condP rfl (fun c1 => ?_) (fun c1 => ?_) | refine TC.condN rfl (fun c1 => ?_) (fun c1 => ?_) | refine TC.condB rfl (fun c1 => ?_) (fun c1 => ?_) | refine TC.cond rfl (fun c1 => ?_) (fun c1 => ?_)
  · skip
    exact absurd rfl c1
  · skip
    refine TC.env (E' := [(4, _), (5, _)]) (Sub.cons rfl (Sub.cons rfl (Sub.nil _))) ?_
    refine TC.skip ?_
    refine AtX.then ?_
    refine TC.env (E' := [(4, _), (5, _)]) (Sub.cons rfl (Sub.cons rfl (Sub.nil _))) ?_
    refine TC.seq ?_
    refine TC.region ?_
    refine TL.val rfl rfl (Nat.le_of_ble_eq_true rfl) (Val.move rfl) ?_
    refine TL.val rfl rfl (Nat.le_of_ble_eq_true rfl) (Val.nilCheck rfl) ?_
    refine TL.val rfl rfl (Nat.le_of_ble_eq_true rfl) (Val.fieldAddr rfl fl161_0 sz3 rfl) ?_
    refine TL.val rfl rfl (Nat.le_of_ble_eq_true rfl) (Val.loadRd (o := 0) (j := 2 * k + 0) rfl ag3 hR (by omega) ((flat_get On.cs_len hx (by decide)).trans rfl)) ?_
    refine TL.val rfl rfl (Nat.le_of_ble_eq_true rfl) (Val.assign rfl) ?_
    refine TL.nil ?_
    refine AtX.then ?_
    refine TC.env (E' := [(4, _)]) (Sub.cons rfl (Sub.nil _)) ?_
    refine TC.ret1 (fn := Try.f71) (fun _ _ h => h) rfl (RV.tmp rfl) (fun _ h => h) ?_
    exact ⟨rfl, rfl⟩

/-- quorumite/verify.sealed -/
theorem sealed_fn (m : Ms) (M : Hp) (hg : -1000000 ≤ m.gen ∧ m.gen ≤ 1000000) : FnC Try.prog 96 #[.agg #[.int .i64 m.kind, .int .i64 m.who, .int .i64 m.gen, .int .i64 m.seq, .int .i64 m.epoch, .int .i64 m.value, .int .i64 m.metric]] M (fun v M' => v = .int .i64 (if m.kind = 2 then m.gen - 1 else m.gen) ∧ M = M') := by
  refine FnC.intro Try.func96 rfl 11 rfl (by simp) (fun z => ?_)
  refine TC.env (E' := [(0, _)]) (Sub.cons rfl (Sub.nil _)) ?_
  refine TC.seq ?_
  refine TC.region ?_
  refine TL.does (some 1) rfl rfl rfl (Does.box rfl rfl) ?_
  rintro _ _ ⟨b1, rfl, rfl⟩
  refine TL.val rfl rfl (Nat.le_of_ble_eq_true rfl) (Val.assign rfl) ?_
  refine TL.nil ?_
  refine AtX.then ?_
  refine TC.env (E' := [(1, _), (2, _)]) (Sub.cons rfl (Sub.cons rfl (Sub.nil _))) ?_
  refine TC.seq ?_
  refine TC.seq ?_
  refine TC.region ?_
  refine TL.val rfl rfl (Nat.le_of_ble_eq_true rfl) (Val.fieldAddr rfl fl61_0 sz3 rfl) ?_
  first
    | refine TL.val rfl rfl (Nat.le_of_ble_eq_true rfl) (Val.load 0 rfl ag3 rfl rfl) ?_
    | refine TL.val rfl rfl (Nat.le_of_ble_eq_true rfl) (Val.load 1 rfl ag3 rfl rfl) ?_
    | refine TL.val rfl rfl (Nat.le_of_ble_eq_true rfl) (Val.load 2 rfl ag3 rfl rfl) ?_
    | refine TL.val rfl rfl (Nat.le_of_ble_eq_true rfl) (Val.load 3 rfl ag3 rfl rfl) ?_
    | refine TL.val rfl rfl (Nat.le_of_ble_eq_true rfl) (Val.load 4 rfl ag3 rfl rfl) ?_
    | refine TL.val rfl rfl (Nat.le_of_ble_eq_true rfl) (Val.load 5 rfl ag3 rfl rfl) ?_
  refine TL.val rfl rfl (Nat.le_of_ble_eq_true rfl) (Val.eqlI rfl rfl) ?_
  refine TL.nil ?_
  refine AtX.then ?_
  refine TC.env (E' := [(1, _), (2, _), (5, _)]) (Sub.cons rfl (Sub.cons rfl (Sub.cons rfl (Sub.nil _)))) ?_
  first | refine TC.condP rfl (fun c1 => ?_) (fun c1 => ?_) | refine TC.condN rfl (fun c1 => ?_) (fun c1 => ?_) | refine TC.condB rfl (fun c1 => ?_) (fun c1 => ?_) | refine TC.cond rfl (fun c1 => ?_) (fun c1 => ?_)
  · skip
    refine TC.env (E' := [(1, _), (2, _)]) (Sub.cons rfl (Sub.cons rfl (Sub.nil _))) ?_
    refine TC.seq ?_
    refine TC.region ?_
    refine TL.val rfl rfl (Nat.le_of_ble_eq_true rfl) (Val.fieldAddr rfl fl61_2 sz3 rfl) ?_
    first
      | refine TL.val rfl rfl (Nat.le_of_ble_eq_true rfl) (Val.load 0 rfl ag3 rfl rfl) ?_
      | refine TL.val rfl rfl (Nat.le_of_ble_eq_true rfl) (Val.load 1 rfl ag3 rfl rfl) ?_
      | refine TL.val rfl rfl (Nat.le_of_ble_eq_true rfl) (Val.load 2 rfl ag3 rfl rfl) ?_
      | refine TL.val rfl rfl (Nat.le_of_ble_eq_true rfl) (Val.load 3 rfl ag3 rfl rfl) ?_
      | refine TL.val rfl rfl (Nat.le_of_ble_eq_true rfl) (Val.load 4 rfl ag3 rfl rfl) ?_
      | refine TL.val rfl rfl (Nat.le_of_ble_eq_true rfl) (Val.load 5 rfl ag3 rfl rfl) ?_
    refine TL.val rfl rfl (Nat.le_of_ble_eq_true rfl) (Val.sub rfl rfl (r := m.gen - 1) (w_i64 (by omega) (by omega))) ?_
    refine TL.val rfl rfl (Nat.le_of_ble_eq_true rfl) (Val.assign rfl) ?_
    refine TL.nil ?_
    refine AtX.then ?_
    refine TC.env (E' := [(1, _), (2, _)]) (Sub.cons rfl (Sub.cons rfl (Sub.nil _))) ?_
    refine TC.ret1 (fn := Try.f96) (fun _ _ h => h) rfl (RV.tmp rfl) (M' := M) (by repeat (first | exact ro_refl | exact ro_pre | refine ro_tail ?_ | refine ro_app ?_)) ?_
    refine ⟨?_, rfl⟩
    first | rw [if_pos (by omega)] | rw [if_neg (by omega)]
  · skip
    refine TC.env (E' := [(1, _), (2, _)]) (Sub.cons rfl (Sub.cons rfl (Sub.nil _))) ?_
    refine TC.skip ?_
    refine AtX.then ?_
    refine TC.env (E' := [(1, _), (2, _)]) (Sub.cons rfl (Sub.cons rfl (Sub.nil _))) ?_
    refine TC.seq ?_
    refine TC.region ?_
    refine TL.val rfl rfl (Nat.le_of_ble_eq_true rfl) (Val.fieldAddr rfl fl61_2 sz3 rfl) ?_
    first
      | refine TL.val rfl rfl (Nat.le_of_ble_eq_true rfl) (Val.load 0 rfl ag3 rfl rfl) ?_
      | refine TL.val rfl rfl (Nat.le_of_ble_eq_true rfl) (Val.load 1 rfl ag3 rfl rfl) ?_
      | refine TL.val rfl rfl (Nat.le_of_ble_eq_true rfl) (Val.load 2 rfl ag3 rfl rfl) ?_
      | refine TL.val rfl rfl (Nat.le_of_ble_eq_true rfl) (Val.load 3 rfl ag3 rfl rfl) ?_
      | refine TL.val rfl rfl (Nat.le_of_ble_eq_true rfl) (Val.load 4 rfl ag3 rfl rfl) ?_
      | refine TL.val rfl rfl (Nat.le_of_ble_eq_true rfl) (Val.load 5 rfl ag3 rfl rfl) ?_
    refine TL.val rfl rfl (Nat.le_of_ble_eq_true rfl) (Val.assign rfl) ?_
    refine TL.nil ?_
    refine AtX.then ?_
    refine TC.env (E' := [(2, _)]) (Sub.cons rfl (Sub.nil _)) ?_
    refine TC.ret1 (fn := Try.f96) (fun _ _ h => h) rfl (RV.tmp rfl) (M' := M) (by repeat (first | exact ro_refl | exact ro_pre | refine ro_tail ?_ | refine ro_app ?_)) ?_
    refine ⟨?_, rfl⟩
    first | rw [if_pos (by omega)] | rw [if_neg (by omega)]

end Go.Proofs.Ytphoapajlcaoeaa
