/- The engine: a slice's literal of structs. -/
import Derived.Test.YtphoapajlcaoeaaE12
set_option linter.unusedVariables false
set_option linter.unusedSimpArgs false
namespace Go.X
open Go Go.RowKit
theorem setRange_app : ∀ (vs pre mid post : List Value), mid.length = vs.length → setRange (pre ++ (mid ++ post)) pre.length vs = pre ++ (vs ++ post)
  | [], pre, mid, post, h => by
    have : mid = [] := List.eq_nil_of_length_eq_zero h
    subst this; rfl
  | c :: r, pre, [], post, h => by simp at h
  | c :: r, pre, m :: mid, post, h => by
    have ih := setRange_app r (pre ++ [c]) mid post (by simpa using h)
    simp only [setRange]
    have e : (pre ++ (m :: mid ++ post)).set pre.length c = (pre ++ [c]) ++ (mid ++ post) := by
      rw [List.set_append_right _ _ (Nat.le_refl _)]
      simp
    rw [e]
    have e2 : pre.length + 1 = (pre ++ [c]).length := by simp
    rw [e2, ih]
    simp
theorem fill_from {α : Type} {f : α → List Value} {g : α → Value} {sz : Nat} (hf : ∀ a, (f a).length = sz) (hg : ∀ a, (g a).cells.toList = f a) {zl : List Value} (hz : zl.length = sz) :
    ∀ (zs : List α) (k : Nat) (pre : List Value), pre.length = k * sz → fillL (fun i => some (i * sz, sz)) (pre ++ zrep zl zs.length) ((zs.zipIdx k).map fun x => (x.2, g x.1)) = some (pre ++ zs.flatMap f)
  | [], k, pre, h => by simp [fillL, zrep]
  | a :: zs, k, pre, h => by
    have ih := fill_from hf hg hz zs (k + 1) (pre ++ f a) (by rw [List.length_append, hf, h, Nat.add_mul]; omega)
    simp only [List.zipIdx_cons, List.map_cons, fillL, List.length_cons, zrep, hg]
    have hc : (Nat.beq (f a).length sz && Nat.ble (k * sz + (f a).length) (pre ++ (zl ++ zrep zl zs.length)).length) = true := by
      rw [Bool.and_eq_true]
      refine ⟨by rw [hf]; exact Nat.beq_refl sz, Nat.ble_eq_true_of_le ?_⟩
      simp only [List.length_append, hf, h, hz]; omega
    rw [hc, ← h, setRange_app (f a) pre zl _ (by rw [hz, hf])]
    simp only [cond_true]
    rw [← List.append_assoc, ih]
    simp
theorem fill_all {α : Type} {f : α → List Value} {g : α → Value} {sz : Nat} (hf : ∀ a, (f a).length = sz) (hg : ∀ a, (g a).cells.toList = f a) {zl : List Value} (hz : zl.length = sz) (zs : List α) :
    fillL (fun i => some (i * sz, sz)) (zrep zl zs.length) (zs.zipIdx.map fun x => (x.2, g x.1)) = some (zs.flatMap f) := by
  have h := fill_from hf hg hz zs 0 [] (by simp)
  simpa using h
end Go.X
namespace Go.X
open Go Go.RowKit
theorem evP0 {E : Env} : evParts E [] = some [] := rfl
theorem evP {E : Env} {i : Nat} {x : Operand} {v : Value} {r : List (Nat × Operand)} {vs : List (Nat × Value)} (h : ev E x = some v) (hr : evParts E r = some vs) : evParts E ((i, x) :: r) = some ((i, v) :: vs) := by
  simp only [evParts, h, hr]
end Go.X
