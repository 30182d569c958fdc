/- The engine: sync/atomic's loads, stores and sums. -/
import Derived.Test.YtphoapajlcaoeaaE13
import Derived.Laws.LoneSync
set_option linter.unusedVariables false
set_option linter.unusedSimpArgs false
namespace Go.X
open Go Go.RowKit
section
variable {P : Program} {N : Nat} {z : World} {E : Env} {M : Hp} {f : FuncId} {fn : Func} {k : IntKind}
variable {dst : Option Tmp} {ty : TypeId} {pos : String} {af : Array Edge} {gu : Option (Nat × Bool)} {t yt : TypeId} {x y : Operand} {at_ : Array TypeId}
variable {b off : Nat} {cs : Array Value} {T : TypeId} {n m : Int}
theorem Val.atomL {fz : Nat × Nat} (hf : P.funcs[f]? = some fn) (hname : (fn.name == "runtime.NumGoroutine") = false) (hb : fn.body.isNone = true) (hn : Extern.findNext fn = none) (he : Extern.find fn = some (Extern.Atomic.loadT (.int k)))
    (i : Nat) (hx : ev E x = some (.pointer (some ⟨b, off, none⟩))) (hi : M[i]? = some (b, .cells cs T fz)) (hv : nth cs.toList off = some (.int k n)) :
    Val P N z E M ⟨dst, .call ⟨.value (.func f), #[x], at_⟩, ty, pos, af, gu⟩ (.int k n) := fun a w ha hw => by
  rw [nth_eq, Array.getElem?_toList] at hv
  have hc : w.cell? ⟨b, off, none⟩ = some (.int k n) := (cell_of (hw.at hi)).trans hv
  have h := run_call_load hf hname hb hn k he hc
  have hfe : a.eval (.func f) = .func (.func f) #[] #[] := rfl
  simp only [execOp, resolve, hfe, Deferred.ofValue, Sem.run_bind, Sem.run_pure, Result.andThen, invoke, List.map_toArray, List.map_cons, List.map_nil, ha.ev hx, Array.append_empty, Array.empty_append]
  exact h
theorem Does.atomS (hf : P.funcs[f]? = some fn) (hname : (fn.name == "runtime.NumGoroutine") = false) (hb : fn.body.isNone = true) (hn : Extern.findNext fn = none) (he : Extern.find fn = some Extern.Atomic.storeT)
    (i : Nat) (hx : ev E x = some (.pointer (some ⟨b, off, none⟩))) (hy : ev E y = some (.int k n)) (hi : M[i]? = some (b, .cells cs T (0, 0))) (ho : off < cs.size) :
    Does P N z E M ⟨dst, .call ⟨.value (.func f), #[x, y], at_⟩, ty, pos, af, gu⟩ (fun u M' => u = .tuple #[] ∧ M' = M.set i (b, .cells (cs.setIfInBounds off (.int k n)) T (0, 0))) := fun a w K Q ha hw kk => by
  have hbk := hw.at hi
  have hc : w.cell? ⟨b, off, none⟩ = some cs[off] := by rw [cell_of hbk, Array.getElem?_eq_getElem ho]
  have h := run_call_store (y := n) hf hname hb hn he hc (frozen_of_row w b _ cs T hbk) (k := k)
  have hfe : a.eval (.func f) = .func (.func f) #[] #[] := rfl
  have hex : (execOp a.eval ⟨dst, .call ⟨.value (.func f), #[x, y], at_⟩, ty, pos, af, gu⟩).run P w = .ok (.value (.tuple #[])) (w.setCell ⟨b, off, none⟩ (.int k n)) := by
    simp only [execOp, resolve, hfe, Deferred.ofValue, Sem.run_bind, Sem.run_pure, Result.andThen, invoke, List.map_toArray, List.map_cons, List.map_nil, ha.ev hx, ha.ev hy, Array.append_empty, Array.empty_append]
    exact h
  simp only [Oper.wp, hex, Oper.upon]
  exact kk _ _ _ ⟨rfl, rfl⟩ (hw.setAt hi rfl rfl rfl (heap_setCell_same w b off cs T _ hbk) (fun j hj => heap_setCell_other w _ j _ (by simpa using hj)))
theorem Does.atomA (hf : P.funcs[f]? = some fn) (hname : (fn.name == "runtime.NumGoroutine") = false) (hb : fn.body.isNone = true) (hn : Extern.findNext fn = none) (he : Extern.find fn = some (Extern.Atomic.update (Op.intArith .add) k true))
    (i : Nat) (hx : ev E x = some (.pointer (some ⟨b, off, none⟩))) (hy : ev E y = some (.int k n)) (hi : M[i]? = some (b, .cells cs T (0, 0))) (hv : nth cs.toList off = some (.int k m)) {r : Int} (hr : k.wrap (m + n) = r) :
    Does P N z E M ⟨dst, .call ⟨.value (.func f), #[x, y], at_⟩, ty, pos, af, gu⟩ (fun u M' => u = .int k r ∧ M' = M.set i (b, .cells (cs.setIfInBounds off (.int k r)) T (0, 0))) := fun a w K Q ha hw kk => by
  subst hr
  rw [nth_eq, Array.getElem?_toList] at hv
  have hbk := hw.at hi
  have hc : w.cell? ⟨b, off, none⟩ = some (.int k m) := (cell_of hbk).trans hv
  have h := run_call_add (y := n) (s := k.wrap (m + n)) hf hname hb hn k he hc (frozen_of_row w b _ cs T hbk) (by simp [Op.intArith])
  have hfe : a.eval (.func f) = .func (.func f) #[] #[] := rfl
  have hex : (execOp a.eval ⟨dst, .call ⟨.value (.func f), #[x, y], at_⟩, ty, pos, af, gu⟩).run P w = .ok (.value (.int k (k.wrap (m + n)))) (w.setCell ⟨b, off, none⟩ (.int k (k.wrap (m + n)))) := by
    simp only [execOp, resolve, hfe, Deferred.ofValue, Sem.run_bind, Sem.run_pure, Result.andThen, invoke, List.map_toArray, List.map_cons, List.map_nil, ha.ev hx, ha.ev hy, Array.append_empty, Array.empty_append]
    exact h
  simp only [Oper.wp, hex, Oper.upon]
  exact kk _ _ _ ⟨rfl, rfl⟩ (hw.setAt hi rfl rfl rfl (heap_setCell_same w b off cs T _ hbk) (fun j hj => heap_setCell_other w _ j _ (by simpa using hj)))
end
end Go.X
