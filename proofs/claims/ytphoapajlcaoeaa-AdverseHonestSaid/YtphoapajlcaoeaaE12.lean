/- The engine: rows of values alike (structs, integers, Bools), by place. -/
import Derived.Test.YtphoapajlcaoeaaE11
set_option linter.unusedVariables false
set_option linter.unusedSimpArgs false
namespace Go.X
open Go Go.RowKit
section
variable {α : Type} {f : α → List Value} {s : Nat}
theorem flat_len (hf : ∀ a, (f a).length = s) : ∀ zs : List α, (zs.flatMap f).length = s * zs.length
  | [] => by simp
  | a :: zs => by simp [flat_len hf zs, hf, Nat.mul_add]; omega
theorem flat_drop (hf : ∀ a, (f a).length = s) : ∀ (zs : List α) (k : Nat), (zs.flatMap f).drop (s * k) = (zs.drop k).flatMap f
  | zs, 0 => by simp
  | [], k + 1 => by simp
  | a :: zs, k + 1 => by
    have h := flat_drop hf zs k
    have e : s * (k + 1) = (f a).length + s * k := by rw [hf, Nat.mul_add]; omega
    rw [List.flatMap_cons, e, ← List.drop_drop, List.drop_left, h]
    rfl
theorem flat_take (hf : ∀ a, (f a).length = s) : ∀ (zs : List α) (k : Nat), (zs.flatMap f).take (s * k) = (zs.take k).flatMap f
  | zs, 0 => by simp
  | [], k + 1 => by simp
  | a :: zs, k + 1 => by
    have h := flat_take hf zs k
    have e : s * (k + 1) = (f a).length + s * k := by rw [hf, Nat.mul_add]; omega
    rw [List.flatMap_cons, e, List.take_length_add_append, h]
    rfl
theorem flat_seg (hf : ∀ a, (f a).length = s) {zs : List α} {k : Nat} {a : α} (h : zs[k]? = some a) : ((zs.flatMap f).drop (s * k)).take s = f a := by
  rw [flat_drop hf]
  obtain ⟨hk, rfl⟩ := List.getElem?_eq_some_iff.1 h
  rw [List.drop_eq_getElem_cons hk, List.flatMap_cons]
  rw [List.take_append_of_le_length (by rw [hf]; exact Nat.le_refl _), List.take_of_length_le (by rw [hf]; exact Nat.le_refl _)]
theorem flat_get (hf : ∀ a, (f a).length = s) {zs : List α} {k j : Nat} {a : α} (h : zs[k]? = some a) (hj : j < s) : (zs.flatMap f)[s * k + j]? = (f a)[j]? := by
  rw [← flat_seg hf h, List.getElem?_take, if_pos hj, List.getElem?_drop]
theorem flat_set (hf : ∀ a, (f a).length = s) {zs : List α} {k : Nat} (h : k < zs.length) (a : α) : (zs.flatMap f).take (s * k) ++ f a ++ (zs.flatMap f).drop (s * k + s) = (zs.set k a).flatMap f := by
  have e : s * k + s = s * (k + 1) := by rw [Nat.mul_add]; omega
  rw [e, flat_take hf, flat_drop hf, List.set_eq_take_append_cons_drop, if_pos h]
  simp [List.flatMap_append]
end
section
variable {P : Program} {N : Nat} {z : World} {E : Env} {M : Hp}
variable {dst : Option Tmp} {ty : TypeId} {pos : String} {af : Array Edge} {gu : Option (Nat × Bool)} {t yt : TypeId} {x y : Operand}
theorem Does.storeR {v : Value} {b off n : Nat} {ys ys' : List Value} {T : TypeId} (i : Nat) (hx : ev E x = some (.pointer (some ⟨b, off, none⟩))) (hy : ev E y = some v) (hi : M[i]? = some (b, row T ys))
    (hn : sizQ P t = some n) (hs : v.cells.toList.length = n) (h1 : v.cells.toList.all one = true) (hb : off + n ≤ ys.length) (hr : ys.take off ++ v.cells.toList ++ ys.drop (off + n) = ys') :
    Does P N z E M ⟨dst, .store t x y, ty, pos, af, gu⟩ (fun u M'' => u = undef ∧ M'' = M.set i (b, row T ys')) := by
  subst hr
  refine Does.store hx hy hi hn (by simpa using hs) h1 (by simpa using hb) (?_ : _ = (ys.take off ++ v.cells.toList ++ ys.drop (off + n)).toArray) rfl
  apply Array.ext'
  rw [splice_list _ _ _ (by rw [hs]; simpa using hb), hs]
theorem Val.loadAggR {b o r j n : Nat} {ys vs : List Value} (hx : ev E x = some (.pointer (some ⟨b, r, none⟩))) (ht : aggQ P t = some true) (hn : sizQ P t = some n) (hR : Rd M ⟨b, o, none⟩ ys) (hr : r = o + j) (hv : (ys.drop j).take n = vs) (hs : vs.length = n) :
    Val P N z E M ⟨dst, .load t x, ty, pos, af, gu⟩ (.agg vs.toArray) := fun a w ha hw => by
  subst hr
  have hl := run_loadCells_list (P := P) (w := w) ⟨b, o + j, none⟩ vs (fun q v hq => by
    rw [addr_add, Nat.add_assoc]
    refine hR.at hw ?_
    rw [← hv, List.getElem?_take] at hq
    split at hq
    · rw [List.getElem?_drop] at hq; exact hq
    · cases hq)
  simp only [hs] at hl
  simp [execOp, ha.ev hx, Instr.loadAt, Instr.sureAddr, loadVar, run_isAgg ht, run_sizeOf hn, Result.andThen, hl]
end
/-- values of one cell in a row -/
theorem map_get {α : Type} {f : α → Value} {zs : List α} {k : Nat} {a : α} (h : zs[k]? = some a) : (zs.map f)[k]? = some (f a) := by simp [h]
theorem map_set1 {α : Type} {f : α → Value} {zs : List α} {k : Nat} (h : k < zs.length) (a : α) : (zs.map f).take k ++ [f a] ++ (zs.map f).drop (k + 1) = (zs.set k a).map f := by
  rw [List.set_eq_take_append_cons_drop, if_pos h]
  simp
theorem list_set1 {zs : List Value} {k : Nat} (h : k < zs.length) (a : Value) : zs.take k ++ [a] ++ zs.drop (k + 1) = zs.set k a := by
  rw [List.set_eq_take_append_cons_drop, if_pos h]
  simp
theorem bv_one' (l : List Int) (k : IntKind) : ∀ u ∈ l.map (Value.int k), one u = true := by
  intro u hu
  obtain ⟨n, _, rfl⟩ := List.mem_map.1 hu
  rfl
end Go.X
namespace Go.X
open Go Go.RowKit
theorem Val.capSl {P : Program} {N : Nat} {z : World} {E : Env} {M : Hp} {dst : Option Tmp} {ty : TypeId} {pos : String} {af : Array Edge} {gu : Option (Nat × Bool)} {t e : TypeId} {x : Operand} {p : Option Addr} {l c : Nat} {at_ : Array TypeId} (hx : ev E x = some (.slice p l c)) (ha0 : at_[0]? = some t) (ht : slQ P t = some e) :
    Val P N z E M ⟨dst, .call ⟨.builtin .cap, #[x], at_⟩, ty, pos, af, gu⟩ (.int .i64 c) := fun a w ha hw => by
  simp [execOp, resolve, invoke, builtin, Builtin.cap_, ha.ev hx, ha0, run_underlying (slQ_spec ht), Result.andThen, goInt]
end Go.X
namespace Go.X
open Go Go.RowKit
section
variable {P : Program} {N : Nat} {z : World} {E : Env} {M : Hp}
variable {dst : Option Tmp} {ty : TypeId} {pos : String} {af : Array Edge} {gu : Option (Nat × Bool)} {t yt : TypeId} {x y : Operand}
/-- a call of a function value without bound parts -/
theorem Does.callV {f : FuncId} {args : List Operand} {vs : List Value} {at_ : Array TypeId} {c : Operand} {R : Value → Hp → Prop} (hc : ev E c = some (.func (.func f) #[] #[])) (hf : goQ P f = true) (ha0 : evs E args = some vs)
    (h : FnC P f vs.toArray M R) : Does P N z E M ⟨dst, .call ⟨.value c, args.toArray, at_⟩, ty, pos, af, gu⟩ R :=
  Does.call (first := #[]) (cap := #[]) hc hf ha0 (by simpa using h)
/-- []byte(s) -/
theorem Does.s2bL {src d e : TypeId} {l : List UInt8} (hx : ev E x = some (.string (ofL l))) (hs : P.underlying src = some .string) (hd : P.underlying d = some (.slice e)) (he : P.underlying e = some (.int .u8)) :
    Does P N z E M ⟨dst, .convert src d x, ty, pos, af, gu⟩ (fun u M' => ∃ b c sp fz, u = .slice (some ⟨b, 0, none⟩) l.length c ∧ M' = (b, .cells (bv l ++ sp).toArray e fz) :: M) := by
  refine (Does.s2b hx hs hd he).mono fun v M' ⟨b, c, sp, h1, h2, h3⟩ => ⟨b, c, sp, _, (by rw [ofL_size] at h1; exact h1), (by rw [ofL_toList] at h3; exact h3)⟩
end
end Go.X
