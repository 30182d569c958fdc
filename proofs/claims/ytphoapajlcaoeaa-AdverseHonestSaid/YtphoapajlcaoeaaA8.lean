/- walks -/
import Derived.Test.YtphoapajlcaoeaaA7
import Derived.Test.YtphoapajlcaoeaaE15
import Derived.Test.YtphoapajlcaoeaaE9d
set_option linter.unusedVariables false
set_option linter.unusedSimpArgs false
set_option maxRecDepth 100000
set_option maxHeartbeats 4000000
namespace Go.Proofs.Ytphoapajlcaoeaa
open Go Go.X
/-- quorumite/conf.parts -/
theorem parts_fn (c : Cf) (M : Hp) (hn : 0 ≤ c.n ∧ c.n ≤ 1000) (hf : 0 ≤ c.f ∧ c.f ≤ 16) (ht : tg c) : FnC Try.prog 108 #[.agg #[.int .i64 (c.n), .int .i64 (c.f), .int .i64 (c.m), .int .i64 (c.quorum), .int .i64 (c.fresh), .int .i64 (c.grace), .int .i64 (c.window), .int .i64 (c.t0), .int .i64 (c.t1), .int .i64 (c.t2), .int .i64 (c.t3), .int .i64 (c.tol), .int .i64 (c.min), .int .i64 (c.max), .int .i64 (c.calmup), .int .i64 (c.calmdown), .int .i64 (c.podsup), .int .i64 (c.pctup), .int .i64 (c.podsdown), .int .i64 (c.pctdown), .int .i64 (c.period), .int .i64 (c.far), .int .i64 (c.strikes), .int .i64 (c.probe), .int .i64 (c.sectors), .int .u64 (c.seed)]] M (fun v M' => ∃ b, v = .slice (some ⟨b, 0, none⟩) 22 22 ∧ M' = (b, row 176 ((partsL c c.f 1).flatMap Pt.cs)) :: M) := by
  refine FnC.intro Try.func108 rfl 135 rfl (by simp) (fun z => ?_)
  refine TC.env (E' := [(0, _)]) (Sub.cons rfl (Sub.nil _)) ?_
  refine TC.seq ?_
  refine TC.region ?_
  refine TL.does (some 1) rfl rfl rfl (Does.box rfl rfl) ?_
  rintro _ _ ⟨b1, rfl, rfl⟩
  refine TL.val rfl rfl (Nat.le_of_ble_eq_true rfl) (Val.assign rfl) ?_
  refine TL.nil ?_
  refine AtX.then ?_
  refine TC.env (E' := [(1, _), (2, _)]) (Sub.cons rfl (Sub.cons rfl (Sub.nil _))) ?_
  refine TC.seq ?_
  refine TC.region ?_
  refine TL.val rfl rfl (Nat.le_of_ble_eq_true rfl) (Val.assign rfl) ?_
  refine TL.nil ?_
  refine AtX.then ?_
  refine TC.env (E' := [(1, _), (2, _), (3, _)]) (Sub.cons rfl (Sub.cons rfl (Sub.cons rfl (Sub.nil _)))) ?_
  refine TC.seq ?_
  refine TC.region ?_
  refine TL.val rfl rfl (Nat.le_of_ble_eq_true rfl) (Val.move rfl) ?_
  refine TL.val rfl rfl (Nat.le_of_ble_eq_true rfl) (Val.fieldAddr rfl fl26_1 sz3 rfl) ?_
  first
    | refine TL.val rfl rfl (Nat.le_of_ble_eq_true rfl) (Val.load 0 rfl ag3 rfl rfl) ?_
    | refine TL.val rfl rfl (Nat.le_of_ble_eq_true rfl) (Val.load 1 rfl ag3 rfl rfl) ?_
    | refine TL.val rfl rfl (Nat.le_of_ble_eq_true rfl) (Val.load 2 rfl ag3 rfl rfl) ?_
    | refine TL.val rfl rfl (Nat.le_of_ble_eq_true rfl) (Val.load 3 rfl ag3 rfl rfl) ?_
    | refine TL.val rfl rfl (Nat.le_of_ble_eq_true rfl) (Val.load 4 rfl ag3 rfl rfl) ?_
    | refine TL.val rfl rfl (Nat.le_of_ble_eq_true rfl) (Val.load 5 rfl ag3 rfl rfl) ?_
  refine TL.val rfl rfl (Nat.le_of_ble_eq_true rfl) (Val.max rfl rfl (r := c.f) (by split <;> omega)) ?_
  refine TL.val rfl rfl (Nat.le_of_ble_eq_true rfl) (Val.min rfl rfl (r := c.f) (by split <;> omega)) ?_
  refine TL.does (some 10) rfl rfl rfl (Does.callV rfl go117 rfl (clo_fn _ _)) ?_
  rintro _ _ ⟨rfl, rfl⟩
  refine TL.val rfl rfl (Nat.le_of_ble_eq_true rfl) (Val.assign rfl) ?_
  refine TL.nil ?_
  refine AtX.then ?_
  refine TC.env (E' := [(1, _), (2, _), (3, _), (4, _)]) (Sub.cons rfl (Sub.cons rfl (Sub.cons rfl (Sub.cons rfl (Sub.nil _))))) ?_
  refine TC.seq ?_
  refine TC.drawF ((b1, .cells #[.int .i64 (c.n), .int .i64 (c.f), .int .i64 (c.m), .int .i64 (c.quorum), .int .i64 (c.fresh), .int .i64 (c.grace), .int .i64 (c.window), .int .i64 (c.t0), .int .i64 (c.t1), .int .i64 (c.t2), .int .i64 (c.t3), .int .i64 (c.tol), .int .i64 (c.min), .int .i64 (c.max), .int .i64 (c.calmup), .int .i64 (c.calmdown), .int .i64 (c.podsup), .int .i64 (c.pctup), .int .i64 (c.podsdown), .int .i64 (c.pctdown), .int .i64 (c.period), .int .i64 (c.far), .int .i64 (c.strikes), .int .i64 (c.probe), .int .i64 (c.sectors), .int .u64 (c.seed)] 26 (0, 0)) :: M) mixed 125 (by kernel_rfl) (by kernel_rfl) ?_
  refine TF.tk 0 1 rfl rfl rfl (Val.move rfl) ?_
  refine TF.tk 1 3 rfl rfl rfl (Val.fieldAddr rfl fl26_0 sz3 rfl) ?_
  first
    | refine TF.tk 2 7 rfl rfl rfl (Val.load 0 rfl ag3 rfl rfl) ?_
    | refine TF.tk 2 7 rfl rfl rfl (Val.load 1 rfl ag3 rfl rfl) ?_
    | refine TF.tk 2 7 rfl rfl rfl (Val.load 2 rfl ag3 rfl rfl) ?_
    | refine TF.tk 2 7 rfl rfl rfl (Val.load 3 rfl ag3 rfl rfl) ?_
    | refine TF.tk 2 7 rfl rfl rfl (Val.load 4 rfl ag3 rfl rfl) ?_
    | refine TF.tk 2 7 rfl rfl rfl (Val.load 5 rfl ag3 rfl rfl) ?_
  refine TF.tk 5 39 rfl rfl rfl (Val.move rfl) ?_
  refine TF.tk 6 103 rfl rfl rfl (Val.fieldAddr rfl fl26_1 sz3 rfl) ?_
  first
    | refine TF.tk 7 231 rfl rfl rfl (Val.load 0 rfl ag3 rfl rfl) ?_
    | refine TF.tk 7 231 rfl rfl rfl (Val.load 1 rfl ag3 rfl rfl) ?_
    | refine TF.tk 7 231 rfl rfl rfl (Val.load 2 rfl ag3 rfl rfl) ?_
    | refine TF.tk 7 231 rfl rfl rfl (Val.load 3 rfl ag3 rfl rfl) ?_
    | refine TF.tk 7 231 rfl rfl rfl (Val.load 4 rfl ag3 rfl rfl) ?_
    | refine TF.tk 7 231 rfl rfl rfl (Val.load 5 rfl ag3 rfl rfl) ?_
  refine TF.tk 9 743 rfl rfl rfl (Val.move rfl) ?_
  refine TF.tk 10 1767 rfl rfl rfl (Val.fieldAddr rfl fl26_0 sz3 rfl) ?_
  first
    | refine TF.tk 11 3815 rfl rfl rfl (Val.load 0 rfl ag3 rfl rfl) ?_
    | refine TF.tk 11 3815 rfl rfl rfl (Val.load 1 rfl ag3 rfl rfl) ?_
    | refine TF.tk 11 3815 rfl rfl rfl (Val.load 2 rfl ag3 rfl rfl) ?_
    | refine TF.tk 11 3815 rfl rfl rfl (Val.load 3 rfl ag3 rfl rfl) ?_
    | refine TF.tk 11 3815 rfl rfl rfl (Val.load 4 rfl ag3 rfl rfl) ?_
    | refine TF.tk 11 3815 rfl rfl rfl (Val.load 5 rfl ag3 rfl rfl) ?_
  refine TF.tk 16 69351 rfl rfl rfl (Val.move rfl) ?_
  refine TF.tk 17 200423 rfl rfl rfl (Val.fieldAddr rfl fl26_2 sz3 rfl) ?_
  first
    | refine TF.tk 18 462567 rfl rfl rfl (Val.load 0 rfl ag3 rfl rfl) ?_
    | refine TF.tk 18 462567 rfl rfl rfl (Val.load 1 rfl ag3 rfl rfl) ?_
    | refine TF.tk 18 462567 rfl rfl rfl (Val.load 2 rfl ag3 rfl rfl) ?_
    | refine TF.tk 18 462567 rfl rfl rfl (Val.load 3 rfl ag3 rfl rfl) ?_
    | refine TF.tk 18 462567 rfl rfl rfl (Val.load 4 rfl ag3 rfl rfl) ?_
    | refine TF.tk 18 462567 rfl rfl rfl (Val.load 5 rfl ag3 rfl rfl) ?_
  refine TF.tk 21 2559719 rfl rfl rfl (Val.move rfl) ?_
  refine TF.tk 22 6754023 rfl rfl rfl (Val.fieldAddr rfl fl26_3 sz3 rfl) ?_
  first
    | refine TF.tk 23 15142631 rfl rfl rfl (Val.load 0 rfl ag3 rfl rfl) ?_
    | refine TF.tk 23 15142631 rfl rfl rfl (Val.load 1 rfl ag3 rfl rfl) ?_
    | refine TF.tk 23 15142631 rfl rfl rfl (Val.load 2 rfl ag3 rfl rfl) ?_
    | refine TF.tk 23 15142631 rfl rfl rfl (Val.load 3 rfl ag3 rfl rfl) ?_
    | refine TF.tk 23 15142631 rfl rfl rfl (Val.load 4 rfl ag3 rfl rfl) ?_
    | refine TF.tk 23 15142631 rfl rfl rfl (Val.load 5 rfl ag3 rfl rfl) ?_
  refine TF.tk 25 48697063 rfl rfl rfl (Val.move rfl) ?_
  refine TF.tk 26 115805927 rfl rfl rfl (Val.mul rfl rfl (r := 2 * c.f) (w_i64 (by omega) (by omega))) ?_
  refine TF.tk 27 250023655 rfl rfl rfl (Val.add rfl rfl (r := 2 * c.f + 1) (w_i64 (by omega) (by omega))) ?_
  refine TF.tk 28 518459111 rfl rfl rfl (Val.move rfl) ?_
  refine TF.tk 29 1055330023 rfl rfl rfl (Val.fieldAddr rfl fl26_0 sz3 rfl) ?_
  first
    | refine TF.tk 30 2129071847 rfl rfl rfl (Val.load 0 rfl ag3 rfl rfl) ?_
    | refine TF.tk 30 2129071847 rfl rfl rfl (Val.load 1 rfl ag3 rfl rfl) ?_
    | refine TF.tk 30 2129071847 rfl rfl rfl (Val.load 2 rfl ag3 rfl rfl) ?_
    | refine TF.tk 30 2129071847 rfl rfl rfl (Val.load 3 rfl ag3 rfl rfl) ?_
    | refine TF.tk 30 2129071847 rfl rfl rfl (Val.load 4 rfl ag3 rfl rfl) ?_
    | refine TF.tk 30 2129071847 rfl rfl rfl (Val.load 5 rfl ag3 rfl rfl) ?_
  refine TF.tk 33 10719006439 rfl rfl rfl (Val.move rfl) ?_
  refine TF.tk 34 27898875623 rfl rfl rfl (Val.fieldAddr rfl fl26_4 sz3 rfl) ?_
  first
    | refine TF.tk 35 62258613991 rfl rfl rfl (Val.load 0 rfl ag3 rfl rfl) ?_
    | refine TF.tk 35 62258613991 rfl rfl rfl (Val.load 1 rfl ag3 rfl rfl) ?_
    | refine TF.tk 35 62258613991 rfl rfl rfl (Val.load 2 rfl ag3 rfl rfl) ?_
    | refine TF.tk 35 62258613991 rfl rfl rfl (Val.load 3 rfl ag3 rfl rfl) ?_
    | refine TF.tk 35 62258613991 rfl rfl rfl (Val.load 4 rfl ag3 rfl rfl) ?_
    | refine TF.tk 35 62258613991 rfl rfl rfl (Val.load 5 rfl ag3 rfl rfl) ?_
  refine TF.tk 38 337136520935 rfl rfl rfl (Val.move rfl) ?_
  refine TF.tk 39 886892334823 rfl rfl rfl (Val.fieldAddr rfl fl26_5 sz3 rfl) ?_
  first
    | refine TF.tk 40 1986403962599 rfl rfl rfl (Val.load 0 rfl ag3 rfl rfl) ?_
    | refine TF.tk 40 1986403962599 rfl rfl rfl (Val.load 1 rfl ag3 rfl rfl) ?_
    | refine TF.tk 40 1986403962599 rfl rfl rfl (Val.load 2 rfl ag3 rfl rfl) ?_
    | refine TF.tk 40 1986403962599 rfl rfl rfl (Val.load 3 rfl ag3 rfl rfl) ?_
    | refine TF.tk 40 1986403962599 rfl rfl rfl (Val.load 4 rfl ag3 rfl rfl) ?_
    | refine TF.tk 40 1986403962599 rfl rfl rfl (Val.load 5 rfl ag3 rfl rfl) ?_
  refine TF.tk 43 10782496984807 rfl rfl rfl (Val.move rfl) ?_
  refine TF.tk 44 28374683029223 rfl rfl rfl (Val.fieldAddr rfl fl26_6 sz3 rfl) ?_
  first
    | refine TF.tk 45 63559055118055 rfl rfl rfl (Val.load 0 rfl ag3 rfl rfl) ?_
    | refine TF.tk 45 63559055118055 rfl rfl rfl (Val.load 1 rfl ag3 rfl rfl) ?_
    | refine TF.tk 45 63559055118055 rfl rfl rfl (Val.load 2 rfl ag3 rfl rfl) ?_
    | refine TF.tk 45 63559055118055 rfl rfl rfl (Val.load 3 rfl ag3 rfl rfl) ?_
    | refine TF.tk 45 63559055118055 rfl rfl rfl (Val.load 4 rfl ag3 rfl rfl) ?_
    | refine TF.tk 45 63559055118055 rfl rfl rfl (Val.load 5 rfl ag3 rfl rfl) ?_
  first
    | refine TF.tk 48 345034031828711 rfl rfl rfl (Val.loadAgg 0 rfl ag26 sz26 rfl rfl rfl) ?_
    | refine TF.tk 48 345034031828711 rfl rfl rfl (Val.loadAgg 1 rfl ag26 sz26 rfl rfl rfl) ?_
    | refine TF.tk 48 345034031828711 rfl rfl rfl (Val.loadAgg 2 rfl ag26 sz26 rfl rfl rfl) ?_
    | refine TF.tk 48 345034031828711 rfl rfl rfl (Val.loadAgg 3 rfl ag26 sz26 rfl rfl rfl) ?_
    | refine TF.tk 48 345034031828711 rfl rfl rfl (Val.loadAgg 4 rfl ag26 sz26 rfl rfl rfl) ?_
    | refine TF.tk 48 345034031828711 rfl rfl rfl (Val.loadAgg 5 rfl ag26 sz26 rfl rfl rfl) ?_
  refine TF.tk 51 2596833845513959 rfl rfl rfl (Val.move rfl) ?_
  refine TF.tk 52 7100433472884455 rfl rfl rfl (Val.fieldAddr rfl fl26_8 sz3 rfl) ?_
  first
    | refine TF.tk 53 16107632727625447 rfl rfl rfl (Val.load 0 rfl ag3 rfl rfl) ?_
    | refine TF.tk 53 16107632727625447 rfl rfl rfl (Val.load 1 rfl ag3 rfl rfl) ?_
    | refine TF.tk 53 16107632727625447 rfl rfl rfl (Val.load 2 rfl ag3 rfl rfl) ?_
    | refine TF.tk 53 16107632727625447 rfl rfl rfl (Val.load 3 rfl ag3 rfl rfl) ?_
    | refine TF.tk 53 16107632727625447 rfl rfl rfl (Val.load 4 rfl ag3 rfl rfl) ?_
    | refine TF.tk 53 16107632727625447 rfl rfl rfl (Val.load 5 rfl ag3 rfl rfl) ?_
  refine TF.tk 56 88165226765553383 rfl rfl rfl (Val.move rfl) ?_
  refine TF.tk 57 232280414841409255 rfl rfl rfl (Val.fieldAddr rfl fl26_9 sz3 rfl) ?_
  first
    | refine TF.tk 58 520510790993120999 rfl rfl rfl (Val.load 0 rfl ag3 rfl rfl) ?_
    | refine TF.tk 58 520510790993120999 rfl rfl rfl (Val.load 1 rfl ag3 rfl rfl) ?_
    | refine TF.tk 58 520510790993120999 rfl rfl rfl (Val.load 2 rfl ag3 rfl rfl) ?_
    | refine TF.tk 58 520510790993120999 rfl rfl rfl (Val.load 3 rfl ag3 rfl rfl) ?_
    | refine TF.tk 58 520510790993120999 rfl rfl rfl (Val.load 4 rfl ag3 rfl rfl) ?_
    | refine TF.tk 58 520510790993120999 rfl rfl rfl (Val.load 5 rfl ag3 rfl rfl) ?_
  refine TF.tk 61 2826353800206814951 rfl rfl rfl (Val.move rfl) ?_
  refine TF.tk 62 7438039818634202855 rfl rfl rfl (Val.fieldAddr rfl fl26_10 sz3 rfl) ?_
  first
    | refine TF.tk 63 16661411855488978663 rfl rfl rfl (Val.load 0 rfl ag3 rfl rfl) ?_
    | refine TF.tk 63 16661411855488978663 rfl rfl rfl (Val.load 1 rfl ag3 rfl rfl) ?_
    | refine TF.tk 63 16661411855488978663 rfl rfl rfl (Val.load 2 rfl ag3 rfl rfl) ?_
    | refine TF.tk 63 16661411855488978663 rfl rfl rfl (Val.load 3 rfl ag3 rfl rfl) ?_
    | refine TF.tk 63 16661411855488978663 rfl rfl rfl (Val.load 4 rfl ag3 rfl rfl) ?_
    | refine TF.tk 63 16661411855488978663 rfl rfl rfl (Val.load 5 rfl ag3 rfl rfl) ?_
  refine TF.tk 65 53554900002908081895 rfl rfl rfl (Val.move rfl) ?_
  refine TF.tk 66 127341876297746288359 rfl rfl rfl (Val.fieldAddr rfl fl26_9 sz3 rfl) ?_
  first
    | refine TF.tk 67 274915828887422701287 rfl rfl rfl (Val.load 0 rfl ag3 rfl rfl) ?_
    | refine TF.tk 67 274915828887422701287 rfl rfl rfl (Val.load 1 rfl ag3 rfl rfl) ?_
    | refine TF.tk 67 274915828887422701287 rfl rfl rfl (Val.load 2 rfl ag3 rfl rfl) ?_
    | refine TF.tk 67 274915828887422701287 rfl rfl rfl (Val.load 3 rfl ag3 rfl rfl) ?_
    | refine TF.tk 67 274915828887422701287 rfl rfl rfl (Val.load 4 rfl ag3 rfl rfl) ?_
    | refine TF.tk 67 274915828887422701287 rfl rfl rfl (Val.load 5 rfl ag3 rfl rfl) ?_
  refine TF.tk 70 1455507449604834004711 rfl rfl rfl (Val.move rfl) ?_
  refine TF.tk 71 3816690691039656611559 rfl rfl rfl (Val.fieldAddr rfl fl26_11 sz3 rfl) ?_
  first
    | refine TF.tk 72 8539057173909301825255 rfl rfl rfl (Val.load 0 rfl ag3 rfl rfl) ?_
    | refine TF.tk 72 8539057173909301825255 rfl rfl rfl (Val.load 1 rfl ag3 rfl rfl) ?_
    | refine TF.tk 72 8539057173909301825255 rfl rfl rfl (Val.load 2 rfl ag3 rfl rfl) ?_
    | refine TF.tk 72 8539057173909301825255 rfl rfl rfl (Val.load 3 rfl ag3 rfl rfl) ?_
    | refine TF.tk 72 8539057173909301825255 rfl rfl rfl (Val.load 4 rfl ag3 rfl rfl) ?_
    | refine TF.tk 72 8539057173909301825255 rfl rfl rfl (Val.load 5 rfl ag3 rfl rfl) ?_
  refine TF.tk 75 46317989036866463534823 rfl rfl rfl (Val.move rfl) ?_
  refine TF.tk 76 121875852762780786953959 rfl rfl rfl (Val.fieldAddr rfl fl26_12 sz3 rfl) ?_
  first
    | refine TF.tk 77 272991580214609433792231 rfl rfl rfl (Val.load 0 rfl ag3 rfl rfl) ?_
    | refine TF.tk 77 272991580214609433792231 rfl rfl rfl (Val.load 1 rfl ag3 rfl rfl) ?_
    | refine TF.tk 77 272991580214609433792231 rfl rfl rfl (Val.load 2 rfl ag3 rfl rfl) ?_
    | refine TF.tk 77 272991580214609433792231 rfl rfl rfl (Val.load 3 rfl ag3 rfl rfl) ?_
    | refine TF.tk 77 272991580214609433792231 rfl rfl rfl (Val.load 4 rfl ag3 rfl rfl) ?_
    | refine TF.tk 77 272991580214609433792231 rfl rfl rfl (Val.load 5 rfl ag3 rfl rfl) ?_
  refine TF.tk 80 1481917399829238608498407 rfl rfl rfl (Val.move rfl) ?_
  refine TF.tk 81 3899769039058496957910759 rfl rfl rfl (Val.fieldAddr rfl fl26_13 sz3 rfl) ?_
  first
    | refine TF.tk 82 8735472317517013656735463 rfl rfl rfl (Val.load 0 rfl ag3 rfl rfl) ?_
    | refine TF.tk 82 8735472317517013656735463 rfl rfl rfl (Val.load 1 rfl ag3 rfl rfl) ?_
    | refine TF.tk 82 8735472317517013656735463 rfl rfl rfl (Val.load 2 rfl ag3 rfl rfl) ?_
    | refine TF.tk 82 8735472317517013656735463 rfl rfl rfl (Val.load 3 rfl ag3 rfl rfl) ?_
    | refine TF.tk 82 8735472317517013656735463 rfl rfl rfl (Val.load 4 rfl ag3 rfl rfl) ?_
    | refine TF.tk 82 8735472317517013656735463 rfl rfl rfl (Val.load 5 rfl ag3 rfl rfl) ?_
  refine TF.tk 85 47421098545185147247333095 rfl rfl rfl (Val.move rfl) ?_
  refine TF.tk 86 124792351000521414428528359 rfl rfl rfl (Val.fieldAddr rfl fl26_14 sz3 rfl) ?_
  first
    | refine TF.tk 87 279534855911193948790918887 rfl rfl rfl (Val.load 0 rfl ag3 rfl rfl) ?_
    | refine TF.tk 87 279534855911193948790918887 rfl rfl rfl (Val.load 1 rfl ag3 rfl rfl) ?_
    | refine TF.tk 87 279534855911193948790918887 rfl rfl rfl (Val.load 2 rfl ag3 rfl rfl) ?_
    | refine TF.tk 87 279534855911193948790918887 rfl rfl rfl (Val.load 3 rfl ag3 rfl rfl) ?_
    | refine TF.tk 87 279534855911193948790918887 rfl rfl rfl (Val.load 4 rfl ag3 rfl rfl) ?_
    | refine TF.tk 87 279534855911193948790918887 rfl rfl rfl (Val.load 5 rfl ag3 rfl rfl) ?_
  refine TF.tk 90 1517474895196574223690043111 rfl rfl rfl (Val.move rfl) ?_
  refine TF.tk 91 3993354973767334773488291559 rfl rfl rfl (Val.fieldAddr rfl fl26_15 sz3 rfl) ?_
  first
    | refine TF.tk 92 8945115130908855873084788455 rfl rfl rfl (Val.load 0 rfl ag3 rfl rfl) ?_
    | refine TF.tk 92 8945115130908855873084788455 rfl rfl rfl (Val.load 1 rfl ag3 rfl rfl) ?_
    | refine TF.tk 92 8945115130908855873084788455 rfl rfl rfl (Val.load 2 rfl ag3 rfl rfl) ?_
    | refine TF.tk 92 8945115130908855873084788455 rfl rfl rfl (Val.load 3 rfl ag3 rfl rfl) ?_
    | refine TF.tk 92 8945115130908855873084788455 rfl rfl rfl (Val.load 4 rfl ag3 rfl rfl) ?_
    | refine TF.tk 92 8945115130908855873084788455 rfl rfl rfl (Val.load 5 rfl ag3 rfl rfl) ?_
  refine TF.tk 95 48559196388041024669856763623 rfl rfl rfl (Val.move rfl) ?_
  refine TF.tk 96 127787358902305362263400713959 rfl rfl rfl (Val.fieldAddr rfl fl26_16 sz3 rfl) ?_
  first
    | refine TF.tk 97 286243683930834037450488614631 rfl rfl rfl (Val.load 0 rfl ag3 rfl rfl) ?_
    | refine TF.tk 97 286243683930834037450488614631 rfl rfl rfl (Val.load 1 rfl ag3 rfl rfl) ?_
    | refine TF.tk 97 286243683930834037450488614631 rfl rfl rfl (Val.load 2 rfl ag3 rfl rfl) ?_
    | refine TF.tk 97 286243683930834037450488614631 rfl rfl rfl (Val.load 3 rfl ag3 rfl rfl) ?_
    | refine TF.tk 97 286243683930834037450488614631 rfl rfl rfl (Val.load 4 rfl ag3 rfl rfl) ?_
    | refine TF.tk 97 286243683930834037450488614631 rfl rfl rfl (Val.load 5 rfl ag3 rfl rfl) ?_
  refine TF.tk 100 1553894284159063438947191820007 rfl rfl rfl (Val.move rfl) ?_
  refine TF.tk 101 4089195484615522241940598230759 rfl rfl rfl (Val.fieldAddr rfl fl26_17 sz3 rfl) ?_
  first
    | refine TF.tk 102 9159797885528439847927411052263 rfl rfl rfl (Val.load 0 rfl ag3 rfl rfl) ?_
    | refine TF.tk 102 9159797885528439847927411052263 rfl rfl rfl (Val.load 1 rfl ag3 rfl rfl) ?_
    | refine TF.tk 102 9159797885528439847927411052263 rfl rfl rfl (Val.load 2 rfl ag3 rfl rfl) ?_
    | refine TF.tk 102 9159797885528439847927411052263 rfl rfl rfl (Val.load 3 rfl ag3 rfl rfl) ?_
    | refine TF.tk 102 9159797885528439847927411052263 rfl rfl rfl (Val.load 4 rfl ag3 rfl rfl) ?_
    | refine TF.tk 102 9159797885528439847927411052263 rfl rfl rfl (Val.load 5 rfl ag3 rfl rfl) ?_
  refine TF.tk 105 49724617092831780695821913624295 rfl rfl rfl (Val.fieldAddr rfl fl26_18 sz2 rfl) ?_
  first
    | refine TF.tk 106 130854255507438462391610918768359 rfl rfl rfl (Val.load 0 rfl ag2 rfl rfl) ?_
    | refine TF.tk 106 130854255507438462391610918768359 rfl rfl rfl (Val.load 1 rfl ag2 rfl rfl) ?_
    | refine TF.tk 106 130854255507438462391610918768359 rfl rfl rfl (Val.load 2 rfl ag2 rfl rfl) ?_
    | refine TF.tk 106 130854255507438462391610918768359 rfl rfl rfl (Val.load 3 rfl ag2 rfl rfl) ?_
    | refine TF.tk 106 130854255507438462391610918768359 rfl rfl rfl (Val.load 4 rfl ag2 rfl rfl) ?_
    | refine TF.tk 106 130854255507438462391610918768359 rfl rfl rfl (Val.load 5 rfl ag2 rfl rfl) ?_
  refine TF.tk 107 293113532336651825783188929056487 rfl rfl rfl (Val.buildS (cs := Pt.cs ⟨[102, 97, 114], c.far, 0, 1099511627776⟩) pl176 ze176 rfl rfl) ?_
  refine TF.tk 108 617632085995078552566344949632743 rfl rfl rfl (Val.move rfl) ?_
  refine TF.tk 109 1266669193311932006132656990785255 rfl rfl rfl (Val.fieldAddr rfl fl26_19 sz3 rfl) ?_
  first
    | refine TF.tk 110 2564743407945638913265281073090279 rfl rfl rfl (Val.load 0 rfl ag3 rfl rfl) ?_
    | refine TF.tk 110 2564743407945638913265281073090279 rfl rfl rfl (Val.load 1 rfl ag3 rfl rfl) ?_
    | refine TF.tk 110 2564743407945638913265281073090279 rfl rfl rfl (Val.load 2 rfl ag3 rfl rfl) ?_
    | refine TF.tk 110 2564743407945638913265281073090279 rfl rfl rfl (Val.load 3 rfl ag3 rfl rfl) ?_
    | refine TF.tk 110 2564743407945638913265281073090279 rfl rfl rfl (Val.load 4 rfl ag3 rfl rfl) ?_
    | refine TF.tk 110 2564743407945638913265281073090279 rfl rfl rfl (Val.load 5 rfl ag3 rfl rfl) ?_
  refine TF.tk 113 12949337125015294170326273731530471 rfl rfl rfl (Val.move rfl) ?_
  refine TF.tk 114 33718524559154604684448259048410855 rfl rfl rfl (Val.fieldAddr rfl fl26_20 sz3 rfl) ?_
  first
    | refine TF.tk 115 75256899427433225712692229682171623 rfl rfl rfl (Val.load 0 rfl ag3 rfl rfl) ?_
    | refine TF.tk 115 75256899427433225712692229682171623 rfl rfl rfl (Val.load 1 rfl ag3 rfl rfl) ?_
    | refine TF.tk 115 75256899427433225712692229682171623 rfl rfl rfl (Val.load 2 rfl ag3 rfl rfl) ?_
    | refine TF.tk 115 75256899427433225712692229682171623 rfl rfl rfl (Val.load 3 rfl ag3 rfl rfl) ?_
    | refine TF.tk 115 75256899427433225712692229682171623 rfl rfl rfl (Val.load 4 rfl ag3 rfl rfl) ?_
    | refine TF.tk 115 75256899427433225712692229682171623 rfl rfl rfl (Val.load 5 rfl ag3 rfl rfl) ?_
  refine TF.tk 118 407563898373662193938643994752257767 rfl rfl rfl (Val.move rfl) ?_
  refine TF.tk 119 1072177896266120130390547524892430055 rfl rfl rfl (Val.fieldAddr rfl fl26_21 sz3 rfl) ?_
  first
    | refine TF.tk 120 2401405892051036003294354585172774631 rfl rfl rfl (Val.load 0 rfl ag3 rfl rfl) ?_
    | refine TF.tk 120 2401405892051036003294354585172774631 rfl rfl rfl (Val.load 1 rfl ag3 rfl rfl) ?_
    | refine TF.tk 120 2401405892051036003294354585172774631 rfl rfl rfl (Val.load 2 rfl ag3 rfl rfl) ?_
    | refine TF.tk 120 2401405892051036003294354585172774631 rfl rfl rfl (Val.load 3 rfl ag3 rfl rfl) ?_
    | refine TF.tk 120 2401405892051036003294354585172774631 rfl rfl rfl (Val.load 4 rfl ag3 rfl rfl) ?_
    | refine TF.tk 120 2401405892051036003294354585172774631 rfl rfl rfl (Val.load 5 rfl ag3 rfl rfl) ?_
  refine TF.one 3 (by kernel_rfl) ?_
  refine TOF.dz 2401405892051036003294354585172774639 (some 14) rfl rfl rfl rfl (Does.callV rfl go117 rfl (clo_fn _ _)) ?_
  rintro _ _ ⟨rfl, rfl⟩
  refine roK ?_
  refine TF.tk 4 2401405892051036003294354585172774655 rfl rfl rfl (Val.buildS (cs := Pt.cs ⟨[110], c.n, 1, 16⟩) pl176 ze176 rfl rfl) ?_
  refine TF.one 8 (by kernel_rfl) ?_
  refine TOF.dz 2401405892051036003294354585172774911 (some 19) rfl rfl rfl rfl (Does.callV rfl go117 rfl (clo_fn _ _)) ?_
  rintro _ _ ⟨rfl, rfl⟩
  refine roK ?_
  refine TF.one 12 (by kernel_rfl) ?_
  refine TOF.dz 2401405892051036003294354585172779007 (some 23) rfl rfl rfl rfl (Does.callV rfl go117 rfl (clo_fn _ _)) ?_
  rintro _ _ ⟨rfl, rfl⟩
  refine roK ?_
  refine TF.tk 13 2401405892051036003294354585172787199 rfl rfl rfl (Val.sub rfl rfl (r := c.n - 1) (w_i64 (by omega) (by omega))) ?_
  refine TF.tk 14 2401405892051036003294354585172803583 rfl rfl rfl (Val.quo rfl rfl (by decide) (r := (c.n - 1).tdiv 3) (w_i64 (by have := quo3 hn; omega) (by have := quo3 hn; omega))) ?_
  refine TF.tk 15 2401405892051036003294354585172836351 rfl rfl rfl (Val.buildS (cs := Pt.cs ⟨[102], c.f, 0, ((c.n - 1).tdiv 3)⟩) pl176 ze176 rfl rfl) ?_
  refine TF.one 19 (by kernel_rfl) ?_
  refine TOF.dz 2401405892051036003294354585173360639 (some 30) rfl rfl rfl rfl (Does.callV rfl go117 rfl (clo_fn _ _)) ?_
  rintro _ _ ⟨rfl, rfl⟩
  refine roK ?_
  refine TF.tk 20 2401405892051036003294354585174409215 rfl rfl rfl (Val.buildS (cs := Pt.cs ⟨[109], c.m, 1, 4⟩) pl176 ze176 rfl rfl) ?_
  refine TF.one 24 (by kernel_rfl) ?_
  refine TOF.dz 2401405892051036003294354585191186431 (some 35) rfl rfl rfl rfl (Does.callV rfl go117 rfl (clo_fn _ _)) ?_
  rintro _ _ ⟨rfl, rfl⟩
  refine roK ?_
  refine TF.one 31 (by kernel_rfl) ?_
  refine TOF.dz 2401405892051036003294354587338670079 (some 42) rfl rfl rfl rfl (Does.callV rfl go117 rfl (clo_fn _ _)) ?_
  rintro _ _ ⟨rfl, rfl⟩
  refine roK ?_
  refine TF.tk 32 2401405892051036003294354591633637375 rfl rfl rfl (Val.buildS (cs := Pt.cs ⟨[113, 117, 111, 114, 117, 109], c.quorum, (2 * c.f + 1), c.n⟩) pl176 ze176 rfl rfl) ?_
  refine TF.one 36 (by kernel_rfl) ?_
  refine TOF.dz 2401405892051036003294354660353114111 (some 47) rfl rfl rfl rfl (Does.callV rfl go117 rfl (clo_fn _ _)) ?_
  rintro _ _ ⟨rfl, rfl⟩
  refine roK ?_
  refine TF.tk 37 2401405892051036003294354797792067583 rfl rfl rfl (Val.buildS (cs := Pt.cs ⟨[102, 114, 101, 115, 104], c.fresh, 1, 8⟩) pl176 ze176 rfl rfl) ?_
  refine TF.one 41 (by kernel_rfl) ?_
  refine TOF.dz 2401405892051036003294356996815323135 (some 52) rfl rfl rfl rfl (Does.callV rfl go117 rfl (clo_fn _ _)) ?_
  rintro _ _ ⟨rfl, rfl⟩
  refine roK ?_
  refine TF.tk 42 2401405892051036003294361394861834239 rfl rfl rfl (Val.buildS (cs := Pt.cs ⟨[103, 114, 97, 99, 101], c.grace, 1, 100⟩) pl176 ze176 rfl rfl) ?_
  refine TF.one 46 (by kernel_rfl) ?_
  refine TOF.dz 2401405892051036003294431763606011903 (some 57) rfl rfl rfl rfl (Does.callV rfl go117 rfl (clo_fn _ _)) ?_
  rintro _ _ ⟨rfl, rfl⟩
  refine roK ?_
  refine TF.tk 47 2401405892051036003294572501094367231 rfl rfl rfl (Val.buildS (cs := Pt.cs ⟨[119, 105, 110, 100, 111, 119], c.window, 1, 64⟩) pl176 ze176 rfl rfl) ?_
  refine TF.one 49 (by kernel_rfl) ?_
  refine TOF.dz 2401405892051036003295135451047788543 (some 60) rfl rfl rfl rfl (Does.callF go118 rfl (targets_fn c _ ht)) ?_
  rintro _ _ ⟨rfl, rfl⟩
  refine roK ?_
  refine TF.tk 50 2401405892051036003296261350954631167 rfl rfl rfl (Val.buildS (cs := Pt.cs ⟨[116, 97, 114, 103, 101, 116], 1, 1, 1⟩) pl176 ze176 rfl rfl) ?_
  refine TF.one 54 (by kernel_rfl) ?_
  refine TOF.dz 2401405892051036003314275749464113151 (some 65) rfl rfl rfl rfl (Does.callV rfl go117 rfl (clo_fn _ _)) ?_
  rintro _ _ ⟨rfl, rfl⟩
  refine roK ?_
  refine TF.tk 55 2401405892051036003350304546483077119 rfl rfl rfl (Val.buildS (cs := Pt.cs ⟨[116, 111, 108], c.tol, 0, 1000⟩) pl176 ze176 rfl rfl) ?_
  refine TF.one 59 (by kernel_rfl) ?_
  refine TOF.dz 2401405892051036003926765298786500607 (some 70) rfl rfl rfl rfl (Does.callV rfl go117 rfl (clo_fn _ _)) ?_
  rintro _ _ ⟨rfl, rfl⟩
  refine roK ?_
  refine TF.tk 60 2401405892051036005079686803393347583 rfl rfl rfl (Val.buildS (cs := Pt.cs ⟨[109, 105, 110], c.min, 1, 10000⟩) pl176 ze176 rfl rfl) ?_
  refine TF.one 64 (by kernel_rfl) ?_
  refine TOF.dz 2401405892051036023526430877102899199 (some 75) rfl rfl rfl rfl (Does.callV rfl go117 rfl (clo_fn _ _)) ?_
  rintro _ _ ⟨rfl, rfl⟩
  refine roK ?_
  refine TF.one 68 (by kernel_rfl) ?_
  refine TOF.dz 2401405892051036318674336056455725055 (some 79) rfl rfl rfl rfl (Does.callV rfl go117 rfl (clo_fn _ _)) ?_
  rintro _ _ ⟨rfl, rfl⟩
  refine roK ?_
  refine TF.tk 69 2401405892051036908970146415161376767 rfl rfl rfl (Val.buildS (cs := Pt.cs ⟨[109, 97, 120], c.max, c.min, 10000⟩) pl176 ze176 rfl rfl) ?_
  refine TF.one 73 (by kernel_rfl) ?_
  refine TOF.dz 2401405892051046353703112154451804159 (some 84) rfl rfl rfl rfl (Does.callV rfl go117 rfl (clo_fn _ _)) ?_
  rintro _ _ ⟨rfl, rfl⟩
  refine roK ?_
  refine TF.tk 74 2401405892051065243169043633032658943 rfl rfl rfl (Val.buildS (cs := Pt.cs ⟨[99, 97, 108, 109, 117, 112], c.calmup, 0, 60⟩) pl176 ze176 rfl rfl) ?_
  refine TF.one 78 (by kernel_rfl) ?_
  refine TOF.dz 2401405892051367474623947290326335487 (some 89) rfl rfl rfl rfl (Does.callV rfl go117 rfl (clo_fn _ _)) ?_
  rintro _ _ ⟨rfl, rfl⟩
  refine roK ?_
  refine TF.tk 79 2401405892051971937533754604913688575 rfl rfl rfl (Val.buildS (cs := Pt.cs ⟨[99, 97, 108, 109, 100, 111, 119, 110], c.calmdown, 0, 60⟩) pl176 ze176 rfl rfl) ?_
  refine TF.one 83 (by kernel_rfl) ?_
  refine TOF.dz 2401405892061643344090671638311337983 (some 94) rfl rfl rfl rfl (Does.callV rfl go117 rfl (clo_fn _ _)) ?_
  rintro _ _ ⟨rfl, rfl⟩
  refine roK ?_
  refine TF.tk 84 2401405892080986157204505705106636799 rfl rfl rfl (Val.buildS (cs := Pt.cs ⟨[112, 111, 100, 115, 117, 112], c.podsup, 1, 1000⟩) pl176 ze176 rfl rfl) ?_
  refine TF.one 88 (by kernel_rfl) ?_
  refine TOF.dz 2401405892390471167025850773831417855 (some 99) rfl rfl rfl rfl (Does.callV rfl go117 rfl (clo_fn _ _)) ?_
  rintro _ _ ⟨rfl, rfl⟩
  refine roK ?_
  refine TF.tk 89 2401405893009441186668540911280979967 rfl rfl rfl (Val.buildS (cs := Pt.cs ⟨[112, 99, 116, 117, 112], c.pctup, 1, 1000⟩) pl176 ze176 rfl rfl) ?_
  refine TF.one 93 (by kernel_rfl) ?_
  refine TOF.dz 2401405902912961500951583110473973759 (some 104) rfl rfl rfl rfl (Does.callV rfl go117 rfl (clo_fn _ _)) ?_
  rintro _ _ ⟨rfl, rfl⟩
  refine roK ?_
  refine TF.tk 94 2401405922720002129517667508859961343 rfl rfl rfl (Val.buildS (cs := Pt.cs ⟨[112, 111, 100, 115, 100, 111, 119, 110], c.podsdown, 1, 1000⟩) pl176 ze176 rfl rfl) ?_
  refine TF.one 98 (by kernel_rfl) ?_
  refine TOF.dz 2401406239632652186575017883035762687 (some 109) rfl rfl rfl rfl (Does.callV rfl go117 rfl (clo_fn _ _)) ?_
  rintro _ _ ⟨rfl, rfl⟩
  refine roK ?_
  refine TF.tk 99 2401406873457952300689718631387365375 rfl rfl rfl (Val.buildS (cs := Pt.cs ⟨[112, 99, 116, 100, 111, 119, 110], c.pctdown, 1, 100⟩) pl176 ze176 rfl rfl) ?_
  refine TF.one 103 (by kernel_rfl) ?_
  refine TOF.dz 2401417014662754126524930605013008383 (some 114) rfl rfl rfl rfl (Does.callV rfl go117 rfl (clo_fn _ _)) ?_
  rintro _ _ ⟨rfl, rfl⟩
  refine roK ?_
  refine TF.tk 104 2401437297072357778195354552264294399 rfl rfl rfl (Val.buildS (cs := Pt.cs ⟨[112, 101, 114, 105, 111, 100], c.period, 1, 60⟩) pl176 ze176 rfl rfl) ?_
  refine TF.one 111 (by kernel_rfl) ?_
  refine TOF.dz 2404033445501625192009619800428904447 (some 122) rfl rfl rfl rfl (Does.callV rfl go117 rfl (clo_fn _ _)) ?_
  rintro _ _ ⟨rfl, rfl⟩
  refine roK ?_
  refine TF.tk 112 2409225742360160019638150296758124543 rfl rfl rfl (Val.buildS (cs := Pt.cs ⟨[115, 116, 114, 105, 107, 101, 115], c.strikes, 1, 100⟩) pl176 ze176 rfl rfl) ?_
  refine TF.one 116 (by kernel_rfl) ?_
  refine TOF.dz 2492302492096717261694638238025646079 (some 127) rfl rfl rfl rfl (Does.callV rfl go117 rfl (clo_fn _ _)) ?_
  rintro _ _ ⟨rfl, rfl⟩
  refine roK ?_
  refine TF.tk 117 2658455991569831745807614120560689151 rfl rfl rfl (Val.buildS (cs := Pt.cs ⟨[112, 114, 111, 98, 101], c.probe, 1, 100⟩) pl176 ze176 rfl rfl) ?_
  refine TF.one 121 (by kernel_rfl) ?_
  refine TOF.dz 5316911983139663491615228241121378303 (some 132) rfl rfl rfl rfl (Does.callV rfl go117 rfl (clo_fn _ _)) ?_
  rintro _ _ ⟨rfl, rfl⟩
  refine roK ?_
  refine TF.tk 122 10633823966279326983230456482242756607 rfl rfl rfl (Val.buildS (cs := Pt.cs ⟨[115, 101, 99, 116, 111, 114, 115], c.sectors, 64, 4096⟩) pl176 ze176 rfl rfl) ?_
  refine TF.one 123 (by kernel_rfl) ?_
  refine TOF.dz 21267647932558653966460912964485513215 (some 134) rfl rfl rfl rfl (Does.buildSlice (cs := (partsL c c.f 1).flatMap Pt.cs) sl173 sz176 ze176 (by decide) (by decide) rfl (evP rfl (evP rfl (evP rfl (evP rfl (evP rfl (evP rfl (evP rfl (evP rfl (evP rfl (evP rfl (evP rfl (evP rfl (evP rfl (evP rfl (evP rfl (evP rfl (evP rfl (evP rfl (evP rfl (evP rfl (evP rfl (evP rfl evP0)))))))))))))))))))))) (fill_all (f := Pt.cs) (sz := 4) (zl := [.string ⟨#[]⟩, .int .i64 0, .int .i64 0, .int .i64 0]) (g := fun p => Value.agg p.cs.toArray) (fun _ => rfl) (fun _ => rfl) rfl (partsL c c.f 1))) ?_
  rintro _ _ ⟨bS, rfl, rfl⟩
  refine roK ?_
  refine TF.tk 124 42535295865117307932921825928971026431 rfl rfl rfl (Val.assign rfl) ?_
  refine TF.done (by kernel_rfl) ?_
  refine AtX.then ?_
  refine TC.env (E' := [(2, _)]) (Sub.cons rfl (Sub.nil _)) ?_
  refine TC.ret1 (fn := Try.f108) (fun _ _ h => h) rfl (RV.tmp rfl) (M' := (bS, row 176 ((partsL c c.f 1).flatMap Pt.cs)) :: M) (fun w h => ro_del 1 rfl w h) ?_
  exact ⟨bS, rfl, rfl⟩

end Go.Proofs.Ytphoapajlcaoeaa
