/- Plain words: what is made of numbers may be so. -/
import Derived.Test.YtphoapajlcaoeaaES6
namespace Go.X
theorem fit_n {a0 a1 : Int} (h1 : 0 ≤ a0) (h2 : a0 < 3) (h3 : 0 ≤ a1) (h4 : a1 < 4) : 1 ≤ 3 * a0 + 1 + a1 ∧ 3 * a0 + 1 + a1 ≤ 16 := by omega
theorem fit_s {a k n : Int} (h1 : 0 ≤ a) (h2 : a < k) (h : k ≤ n) : 1 ≤ 1 + a ∧ 1 + a ≤ n := by omega
theorem fit_z {a k n : Int} (h1 : 0 ≤ a) (h2 : a < k) (h : k ≤ n) : 0 ≤ a ∧ a ≤ n := by omega
theorem fit_sec {a : Int} (h1 : 0 ≤ a) (h2 : a < 300) : 64 ≤ 64 + a ∧ 64 + a ≤ 4096 := by omega
theorem fit_f {a0 a1 : Int} (h1 : 0 ≤ a0) (h3 : 0 ≤ a1) : 0 ≤ a0 ∧ 3 * a0 + 1 ≤ 3 * a0 + 1 + a1 := by omega
theorem fit_q {a0 a1 a3 : Int} (h1 : 0 ≤ a3) (h2 : a3 < 3 * a0 + 1 + a1 - 2 * a0) : 2 * a0 + 1 ≤ 2 * a0 + 1 + a3 ∧ 2 * a0 + 1 + a3 ≤ 3 * a0 + 1 + a1 := by omega
theorem fit_max {a c : Int} (h1 : 0 ≤ a) (h2 : a < 5) (h3 : 0 ≤ c) (h4 : c < 60) : 1 + a ≤ 1 + a + c ∧ 1 + a + c ≤ 10000 := by omega
theorem fit_t0 {T a : Int} (h : 1 ≤ T ∧ T ≤ 2000) (h1 : 0 ≤ a) : (0 < 1 + a → 1 ≤ T ∧ T ≤ 1099511627776) ∧ (1 + a ≤ 0 → T = 0) := by omega
theorem fit_t1 {T a : Int} (h : (1 < 1 + a → 1 ≤ T ∧ T ≤ 2000) ∧ (1 + a ≤ 1 → T = 0)) : (1 < 1 + a → 1 ≤ T ∧ T ≤ 1099511627776) ∧ (1 + a ≤ 1 → T = 0) := by omega
theorem fit_t2 {a k : Int} (h : a < 2) (hk : 2 ≤ k) : (k < 1 + a → 1 ≤ (0 : Int) ∧ (0 : Int) ≤ 1099511627776) ∧ (1 + a ≤ k → (0 : Int) = 0) := by omega
theorem fit_fin {a0 a1 a2 a3 a4 a5 a6 a9 a10 a11 a12 a13 a14 a15 a16 a17 a18 c10 c13 c14 c17 T0 T1 q19 : Int} (ga0 : 0 ≤ a0) (la0 : a0 < 3) (ga1 : 0 ≤ a1) (la1 : a1 < 4) (ga2 : 0 ≤ a2) (la2 : a2 < 2) (ga3 : 0 ≤ a3) (la3 : a3 < 3 * a0 + 1 + a1 - 2 * a0) (ga4 : 0 ≤ a4) (la4 : a4 < 3) (ga5 : 0 ≤ a5) (la5 : a5 < 3) (ga6 : 0 ≤ a6) (la6 : a6 < 64)
    (ga9 : 0 ≤ a9) (la9 : a9 < 300) (ga10 : 0 ≤ a10) (la10 : a10 < 5) (ga11 : 0 ≤ a11) (la11 : a11 < 4) (ga12 : 0 ≤ a12) (la12 : a12 < 5) (ga13 : 0 ≤ a13) (la13 : a13 < 5) (ga14 : 0 ≤ a14) (la14 : a14 < 5) (ga15 : 0 ≤ a15) (la15 : a15 < 4) (ga16 : 0 ≤ a16) (la16 : a16 < 500) (ga17 : 0 ≤ a17) (la17 : a17 < 3) (ga18 : 0 ≤ a18) (la18 : a18 < 300)
    (gc10 : 0 ≤ c10) (lc10 : c10 < 60) (gc13 : 0 ≤ c13) (lc13 : c13 < 150) (gc14 : 0 ≤ c14) (lc14 : c14 < 100) (gc17 : 0 ≤ c17) (lc17 : c17 < 4) (hT0b : 1 ≤ T0 ∧ T0 ≤ 2000) (hT1b : (1 < 1 + a2 → 1 ≤ T1 ∧ T1 ≤ 2000) ∧ (1 + a2 ≤ 1 → T1 = 0)) (hq : 0 ≤ q19 ∧ q19 < 100000) :
    OkC ⟨3 * a0 + 1 + a1, a0, 1 + a2, 2 * a0 + 1 + a3, 1 + a4, 1 + a5, 1 + a6, T0, T1, 0, 0, a9, 1 + a10, 1 + a10 + c10, a11, a12, 1 + a13, 1 + c13, 1 + a14, 1 + c14, 1 + a15, a16, 1 + a17, 1 + c17, 64 + a18, q19⟩ :=
  ⟨fit_n ga0 la0 ga1 la1, fit_s ga2 la2 (by decide), fit_s ga4 la4 (by decide), fit_s ga5 la5 (by decide), fit_s ga6 la6 (by decide), fit_z ga9 la9 (by decide), fit_s ga10 la10 (by decide), fit_z ga11 la11 (by decide), fit_z ga12 la12 (by decide), fit_s ga13 la13 (by decide), fit_s gc13 lc13 (by decide), fit_s ga14 la14 (by decide), fit_s gc14 lc14 (by decide), fit_s ga15 la15 (by decide), fit_z ga16 la16 (by decide), fit_s ga17 la17 (by decide), fit_s gc17 lc17 (by decide), fit_sec ga18 la18, fit_z hq.1 hq.2 (by decide),
   fit_f ga0 ga1, fit_q ga3 la3, fit_max ga10 la10 gc10 lc10, fit_t0 hT0b ga2, fit_t1 hT1b, fit_t2 la2 (by decide), fit_t2 la2 (by decide)⟩
end Go.X
