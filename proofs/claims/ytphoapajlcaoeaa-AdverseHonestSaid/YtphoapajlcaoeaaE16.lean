/- The engine: regions that write what they read, the strong heap a part of all; moving blocks. -/
import Derived.Test.YtphoapajlcaoeaaE15
set_option linter.unusedVariables false
set_option linter.unusedSimpArgs false
namespace Go.X
open Go Go.RowKit
section
variable {P : Program} {N : Nat} {z : World} {Q : Exit → Act → World → Prop} {E : Env} {M Ms Mw : Hp} {ops : Array Oper} {fuel n m : Nat} {es : List Nat}
theorem TC.drawGM {id : Nat} (es : List Nat) (Ms Mw : Hp) (hm : P.follows .mixedOrders = true) (n : Nat) (h : TG P N z ops Q es Ms Mw ops.size (ls n 0) E M) (h0 : Array.replicate ops.size false = ls n 0 := by kernel_rfl) : TC P N z Q (.region id ops true) E M :=
  fun a w ha hw => wp_region_noPanic (wp_region_any hm (wpAny_of_G _ _ _ _ (h0 ▸ h a _ ha (hw.drawn _))))
theorem TG.heap {listed : Array Bool} {M' : Hp} (hM : ∀ w, Own z w M → Own z w M') (h : TG P N z ops Q es Ms Mw fuel listed E M') : TG P N z ops Q es Ms Mw fuel listed E M := fun a w ha hw => h a w ha (hM w hw)
theorem ro_mv {A L R : Hp} : ∀ w, Own z w (A ++ (L ++ R)) → Own z w (L ++ (A ++ R)) := fun w h => h.perm (by
  rw [← List.append_assoc, ← List.append_assoc]
  exact List.perm_append_comm.append_right R)
theorem ro_4 {L R : Hp} {s a b c : Nat × Obj} : ∀ w, Own z w (L ++ s :: a :: b :: c :: R) → Own z w (a :: b :: c :: (L ++ s :: R)) := fun w h => by
  have h1 : Own z w ([a, b, c] ++ ((L ++ [s]) ++ R)) := ro_mv (A := L ++ [s]) (L := [a, b, c]) w (by simpa using h)
  simpa using h1
theorem ro_in {A L Y R : Hp} {s : Nat × Obj} : ∀ w, Own z w (A ++ (L ++ (s :: (Y ++ R)))) → Own z w (A ++ (L ++ ((Y ++ [s]) ++ R))) := fun w h => h.perm (by
  refine List.Perm.append_left A (List.Perm.append_left L ?_)
  simp only [List.append_assoc, List.singleton_append]
  exact List.perm_middle.symm)
end
theorem zrep_1 (v : Value) (n : Nat) : zrep [v] n = List.replicate n v := by
  induction n with
  | zero => rfl
  | succ n ih => simp [zrep, ih, List.replicate_succ]
theorem zrep_bool (n : Nat) : zrep [Value.bool false] n = (List.replicate n false).map Value.bool := by rw [zrep_1, List.map_replicate]
theorem rd_row0 {M : Hp} {i b : Nat} {T : TypeId} {l sp : List Value} (h : M[i]? = some (b, row T (l ++ sp))) : Rd M ⟨b, 0, none⟩ l := Rd.mem (T := T) (l := l ++ sp) (List.mem_of_getElem? h) (by simp)
theorem rd_rowA {M : Hp} {i b : Nat} {T : TypeId} {l : List Value} (h : M[i]? = some (b, row T l)) : Rd M ⟨b, 0, none⟩ l := rd_row0 (sp := []) (by rw [List.append_nil]; exact h)
end Go.X
namespace Go.X
open Go Go.RowKit
theorem fill_step {place : Nat → Option (Nat × Nat)} {pre mid post : List Value} {i off sz : Nat} {v : Value} {rest : List (Nat × Value)} {r : List Value} (hp : place i = some (off, sz)) (ho : pre.length = off) (hm : mid.length = sz) (hv : v.cells.toList.length = sz)
    (h : fillL place (pre ++ (v.cells.toList ++ post)) rest = some r) : fillL place (pre ++ (mid ++ post)) ((i, v) :: rest) = some r := by
  simp only [fillL, hp, hv]
  have hc : (Nat.beq sz sz && Nat.ble (off + sz) (pre ++ (mid ++ post)).length) = true := by
    rw [Bool.and_eq_true]
    refine ⟨Nat.beq_refl sz, Nat.ble_eq_true_of_le ?_⟩
    simp only [List.length_append, ho, hm]; omega
  rw [hc, ← ho, setRange_app v.cells.toList pre mid post (by rw [hm, hv])]
  exact h
end Go.X
namespace Go.X
open Go Go.RowKit
theorem ro_pre3 {z : World} {a b c : Nat × Obj} {L : Hp} : ∀ w, Own z w (a :: b :: c :: L) → Own z w [a, b, c] := ro_pre (M := [a, b, c]) (L := L)
theorem ro_nil {z : World} {L : Hp} : ∀ w, Own z w L → Own z w [] := ro_pre (M := []) (L := L)
end Go.X
