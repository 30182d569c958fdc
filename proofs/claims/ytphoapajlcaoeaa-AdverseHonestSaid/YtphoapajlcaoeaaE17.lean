/- The engine: calls of closures; loads of what is among the blocks. -/
import Derived.Test.YtphoapajlcaoeaaE16
set_option linter.unusedVariables false
set_option linter.unusedSimpArgs false
namespace Go.X
open Go Go.RowKit
section
variable {P : Program} {N : Nat} {z : World} {E : Env} {M : Hp}
variable {dst : Option Tmp} {ty : TypeId} {pos : String} {af : Array Edge} {gu : Option (Nat × Bool)} {t yt : TypeId} {x y : Operand}
theorem Does.callC {f : FuncId} {args : List Operand} {vs cap : List Value} {at_ : Array TypeId} {c : Operand} {R : Value → Hp → Prop} (hc : ev E c = some (.func (.func f) #[] cap.toArray)) (hf : goQ P f = true) (ha0 : evs E args = some vs)
    (h : FnC P f (vs ++ cap).toArray M R) : Does P N z E M ⟨dst, .call ⟨.value c, args.toArray, at_⟩, ty, pos, af, gu⟩ R :=
  Does.call (first := #[]) (cap := cap.toArray) hc hf ha0 (by simpa using h)
theorem Val.loadMem {b off : Nat} {cs : Array Value} {T : TypeId} {fz : Nat × Nat} {v : Value} (hx : ev E x = some (.pointer (some ⟨b, off, none⟩))) (ht : aggQ P t = some false)
    (hm : (b, Obj.cells cs T fz) ∈ M) (hv : nth cs.toList off = some v) : Val P N z E M ⟨dst, .load t x, ty, pos, af, gu⟩ v := by
  obtain ⟨i, hi⟩ := List.getElem?_of_mem hm
  exact Val.load i hx ht hi hv
end
theorem get_app {L H : Hp} {j : Nat} {x : Nat × Obj} (h : H[j]? = some x) : (L ++ H)[L.length + j]? = some x := by
  rw [List.getElem?_append_right (by omega)]; simpa using h
theorem get_app4 {L H : Hp} {j : Nat} {x a b c d : Nat × Obj} (h : H[j]? = some x) : (a :: b :: c :: d :: (L ++ H))[L.length + j + 4]? = some x := get_app h
theorem get_app1 {L H : Hp} {j : Nat} {x a : Nat × Obj} (h : H[j]? = some x) : (a :: (L ++ H))[L.length + j + 1]? = some x := get_app h
theorem set_app {L H : Hp} {j : Nat} {y : Nat × Obj} : (L ++ H).set (L.length + j) y = L ++ H.set j y := by
  rw [List.set_append_right _ _ (by omega)]; simp
theorem set_app4 {L H : Hp} {j : Nat} {y a b c d : Nat × Obj} : (a :: b :: c :: d :: (L ++ H)).set (L.length + j + 4) y = a :: b :: c :: d :: (L ++ H.set j y) := by
  show a :: b :: c :: d :: ((L ++ H).set (L.length + j) y) = _
  rw [set_app]
theorem ro_pre4 {z : World} {a b c d : Nat × Obj} {L : Hp} : ∀ w, Own z w (a :: b :: c :: d :: L) → Own z w [a, b, c, d] := ro_pre (M := [a, b, c, d]) (L := L)
theorem rdS_opt {σ : Sl} {e sz n : Nat} {xs : List Value} {H : Hp} (h : slOk σ sz n xs) : RdS (slH σ e xs ++ H) (slA σ) xs := slRd h (fun x hx => List.mem_append_left _ hx)
end Go.X
