/- The engine: append, make, conversions between bytes and strings. -/
import Derived.Test.YtphoapajlcaoeaaE3
set_option linter.unusedVariables false
set_option linter.unusedSimpArgs false
namespace Go.X
open Go Go.RowKit

/-- From p on the blocks of M hold ys. -/
def Rd (M : Hp) (p : Addr) (ys : List Value) : Prop := ∃ cs T fz, (p.block, .cells cs T fz) ∈ M ∧ p.spot = none ∧ (cs.toList.drop p.off).take ys.length = ys

theorem Rd.cells {M : Hp} {p : Addr} {ys : List Value} (h : Rd M p ys) {z w : World} (hw : Own z w M) : ∀ j v, ys[j]? = some v → w.cell? (p.add j) = some v := by
  obtain ⟨cs, T, fz, hm, hs, ht⟩ := h
  obtain ⟨b, off, spot⟩ := p
  simp at hs; subst hs
  intro j v hj
  rw [addr_add, cell_of (hw.mem _ _ hm)]
  rw [← ht, List.getElem?_take] at hj
  split at hj
  · simpa using hj
  · cases hj

theorem Rd.mem {M : Hp} {b off : Nat} {l ys : List Value} {T : TypeId} (hm : (b, row T l) ∈ M) (h : (l.drop off).take ys.length = ys) : Rd M ⟨b, off, none⟩ ys := ⟨l.toArray, T, (0, 0), hm, rfl, by simpa using h⟩
theorem Rd.get {M : Hp} {b off i : Nat} {cs : Array Value} {ys : List Value} {T : TypeId} {fz : Nat × Nat} (hi : M[i]? = some (b, .cells cs T fz)) (h : (cs.toList.drop off).take ys.length = ys) : Rd M ⟨b, off, none⟩ ys :=
  ⟨cs, T, fz, List.mem_of_getElem? hi, rfl, h⟩
theorem Rd.mono {M M' : Hp} {p : Addr} {ys : List Value} (h : Rd M p ys) (hM : ∀ x, x ∈ M → x ∈ M') : Rd M' p ys := by
  obtain ⟨cs, T, fz, hm, r⟩ := h
  exact ⟨cs, T, fz, hM _ hm, r⟩
theorem Rd.cons {M : Hp} {p : Addr} {ys : List Value} (x : Nat × Obj) (h : Rd M p ys) : Rd (x :: M) p ys := h.mono fun _ => List.mem_cons_of_mem _
theorem Rd.app {M : Hp} {p : Addr} {ys : List Value} (L : Hp) (h : Rd M p ys) : Rd (L ++ M) p ys := h.mono fun _ hx => List.mem_append_right _ hx
theorem Rd.take {M : Hp} {p : Addr} {ys : List Value} (h : Rd M p ys) (n : Nat) : Rd M p (ys.take n) := by
  obtain ⟨cs, T, fz, hm, hs, ht⟩ := h
  refine ⟨cs, T, fz, hm, hs, ?_⟩
  rw [List.length_take, ← List.take_take, ht]
theorem Rd.drop {M : Hp} {b off : Nat} {ys : List Value} (h : Rd M ⟨b, off, none⟩ ys) (n : Nat) : Rd M ⟨b, off + n, none⟩ (ys.drop n) := by
  obtain ⟨cs, T, fz, hm, hs, ht⟩ := h
  refine ⟨cs, T, fz, hm, hs, ?_⟩
  simp only at ht ⊢
  rw [List.length_drop, ← List.drop_drop, ← List.drop_take, ht]

/-- a slice value that reads ys (elements of one cell each) -/
def RdS (M : Hp) (a : Option Addr) (ys : List Value) : Prop := ys = [] ∨ ∃ p, a = some p ∧ Rd M p ys
theorem RdS.mono {M M' : Hp} {a : Option Addr} {ys : List Value} (h : RdS M a ys) (hM : ∀ x, x ∈ M → x ∈ M') : RdS M' a ys :=
  h.imp id fun ⟨p, hp, hr⟩ => ⟨p, hp, hr.mono hM⟩
theorem RdS.cons {M : Hp} {a : Option Addr} {ys : List Value} (x : Nat × Obj) (h : RdS M a ys) : RdS (x :: M) a ys := h.mono fun _ => List.mem_cons_of_mem _
theorem RdS.app {M : Hp} {a : Option Addr} {ys : List Value} (L : Hp) (h : RdS M a ys) : RdS (L ++ M) a ys := h.mono fun _ hx => List.mem_append_right _ hx
theorem RdS.some {M : Hp} {p : Addr} {ys : List Value} (h : Rd M p ys) : RdS M (some p) ys := .inr ⟨p, rfl, h⟩
theorem RdS.nil (M : Hp) (a : Option Addr) : RdS M a [] := .inl rfl

theorem run_firstCells {M : Hp} {a : Option Addr} {ys : List Value} (h : RdS M a ys) {z w : World} (hw : Own z w M) {P : Program} {sz n c : Nat} (hl : ys.length = n * sz) :
    (Builtin.firstCells sz n (.slice a n c)).run P w = .ok ys.toArray w := by
  rcases h with rfl | ⟨p, rfl, hr⟩
  · have h0 : n * sz = 0 := by simpa using hl.symm
    cases a with
    | none => rfl
    | some p => simp [Builtin.firstCells, h0, loadCells, loadCellsFrom]
  · exact run_firstCells_some w sz n p n c ys hl (hr.cells hw)

section
variable {P : Program} {N : Nat} {z : World} {Q : Exit → Act → World → Prop} {E : Env} {M : Hp} {ops : Array Oper} {rest : List Oper} {o : Oper} {R : Value → Hp → Prop}
variable {dst : Option Tmp} {ty : TypeId} {pos : String} {af : Array Edge} {gu : Option (Nat × Bool)} {t yt : TypeId} {x y : Operand}

/-- What is appended: a slice's elements, a string's bytes, or so many zeros. -/
def Src (P : Program) (M : Hp) (sz : Nat) (zv : Value) (xt : TypeId) (v : Value) (m : Nat) (ys : List Value) : Prop :=
  (∃ a c, v = .slice a m c ∧ (∃ d, P.underlying xt = some (.slice d)) ∧ RdS M a ys) ∨
  (∃ s : ByteArray, v = .string s ∧ P.underlying xt = some .string ∧ m = s.size ∧ ys = (s.data.map fun b => Value.int .u8 b.toNat).toList) ∨
  (∃ k, v = .int k (m : Int) ∧ (∃ k', P.underlying xt = some (.int k')) ∧ (m : Int) ≤ 9223372036854775807 ∧ ys = (zfill zv.cells (m * sz)).toList)

theorem run_grow {t xt e sz by_ m n c : Nat} {zv : Value} {xs ys : List Value} {a : Option Addr} {v : Value} (ht : slQ P t = some e) (hsz : sizQ P e = some sz) (hby : bytQ P e = some by_) (hz : zerQ P e = some zv) (hzs : zv.cells.size = sz)
    (hs : Src P M sz zv xt v m ys) (hyl : ys.length = m * sz) (hxl : xs.length = n * sz) {M2 : Hp} (hx : RdS M2 a xs) (hb : (n + m) * by_ ≤ 140737488355328) (hm : n + m ≤ 9223372036854775807) (hr : c < n + m) {w : World} (hw : Own z w M) (hw2 : Own z w M2) :
    (Builtin.append_ #[t, xt] ty #[.slice a n c, v]).run P w =
      .ok (.slice (some ⟨w.heap.size, 0, none⟩) (n + m) (grownCap w (n + m) c e)) (w.drew.alloc (.cells (xs.toArray ++ ys.toArray ++ Builtin.zeroCells zv.cells (grownCap w (n + m) c e - (n + m))) e)) := by
  obtain ⟨i, hi, his⟩ : ∃ i, P.info? e = some i ∧ i.size = sz := by simpa [sizQ] using hsz
  have hib : i.bytes = by_ := by simpa [bytQ, hi] using hby
  have hiz : i.zero = some zv := by simpa [zerQ, hi] using hz
  have h63 : ¬ (9223372036854775807 < ((n : Int) + (m : Int))) := by omega
  have h48 : ¬ (281474976710656 < Builtin.nextslicecap (n + m) c * i.bytes) := by
    have := growslice_fits (bytes := i.bytes) hr (by rw [hib]; exact hb); omega
  have hr' : ¬ n + m ≤ c := by omega
  have hxd' : (Builtin.firstCells sz n (.slice a n c)).run P w.drew = .ok xs.toArray w.drew := run_firstCells hx hw2.drew hxl
  have hzf : zfill zv.cells 0 = #[] := by simp [zfill]
  rcases hs with ⟨a', c', rfl, ⟨d, hd⟩, hrd⟩ | ⟨s, rfl, hd, rfl, rfl⟩ | ⟨k, rfl, ⟨k', hd⟩, hmi, rfl⟩
  · have hyd' : (Builtin.firstCells sz m (.slice a' m c')).run P w.drew = .ok ys.toArray w.drew := run_firstCells hrd hw.drew hyl
    simp [-List.append_toArray, Builtin.append_, run_underlying (slQ_spec ht), run_underlying hd, run_sizeOf hsz, Builtin.lenOf, Result.andThen, hr', h63, h48, typeInfo, zeroValue, hi, hiz, Question.forced, hxd', hyd', newRow, grownCap]
  · have hyd' : (Builtin.firstCells sz s.size (.string s)).run P w.drew = .ok (s.data.map fun b => Value.int .u8 b.toNat) w.drew := by
      simp only [Builtin.firstCells, Sem.run_pure]
      congr 2
      simp
    simp [-List.append_toArray, Builtin.append_, run_underlying (slQ_spec ht), run_underlying hd, run_sizeOf hsz, Builtin.lenOf, Result.andThen, hr', h63, h48, typeInfo, zeroValue, hi, hiz, Question.forced, hxd', hyd', newRow, grownCap]
    congr 4
    apply Array.ext'; simp
  · have hmw : IntKind.i64.wrap (m : Int) = m := w_i64 (by omega) hmi
    have hby0 : ¬ (281474976710656 < (m : Int) * (i.bytes : Int)) := by
      have h1 : m * i.bytes ≤ (n + m) * i.bytes := Nat.mul_le_mul_right _ (by omega)
      rw [hib] at h1 ⊢
      have : ((m * by_ : Nat) : Int) ≤ 140737488355328 := by omega
      push_cast at this; omega
    by_cases h0 : m * sz = 0
    · have hmn : ¬ ((m : Int) < 0) := by omega
      simp [-List.append_toArray, Builtin.append_, run_underlying (slQ_spec ht), run_underlying hd, run_sizeOf hsz, asInt, asIntOf, hmw, Result.andThen, hr', h63, h48, hby0, h0, hzf, hmn, typeInfo, zeroValue, hi, hiz, Question.forced, hxd', newRow, grownCap]
    · have hmn : ¬ ((m : Int) < 0) := by omega
      have hzz : Builtin.zeroCells zv.cells m = zfill zv.cells (m * sz) := by simp [Builtin.zeroCells, zfill, hzs]
      simp [-List.append_toArray, Builtin.append_, run_underlying (slQ_spec ht), run_underlying hd, run_sizeOf hsz, asInt, asIntOf, hmw, Result.andThen, hr', h63, h48, hby0, h0, typeInfo, zeroValue, hi, hiz, Question.forced, hxd', newRow, grownCap, hzz, hmn]

theorem run_room {t xt e sz m n c b : Nat} {zv : Value} {ys : List Value} {v : Value} {cs : Array Value} {by_ : Nat} (ht : slQ P t = some e) (hsz : sizQ P e = some sz) (hby : bytQ P e = some by_) (hz : zerQ P e = some zv) (hzs : zv.cells.size = sz)
    (hs : Src P M sz zv xt v m ys) (hyl : ys.length = m * sz) (h1 : ∀ u ∈ ys, one u = true) (hb : (n + m) * by_ ≤ 140737488355328) (hr : n + m ≤ c) (hfit : n * sz + ys.length ≤ cs.size) {w : World} (hw : Own z w M) (hg : w.heap[b]? = some (.cells cs e (0, 0))) :
    ∃ w', (Builtin.append_ #[t, xt] ty #[.slice (some ⟨b, 0, none⟩) n c, v]).run P w = .ok (.slice (some ⟨b, 0, none⟩) (n + m) c) w' ∧
      w'.os = w.os ∧ w'.tape = w.tape ∧ w'.output = w.output ∧ w'.heap[b]? = some (.cells (splice cs (n * sz) ys) e (0, 0)) ∧ ∀ k, k ≠ b → w'.heap[k]? = w.heap[k]? := by
  obtain ⟨i, hi, his⟩ : ∃ i, P.info? e = some i ∧ i.size = sz := by simpa [sizQ] using hsz
  have hib : i.bytes = by_ := by simpa [bytQ, hi] using hby
  have hiz : i.zero = some zv := by simpa [zerQ, hi] using hz
  obtain ⟨w', hst, r⟩ := run_storeCells (P := P) b e ys (n * sz) 0 cs w hg (by simpa using hfit) h1
  refine ⟨w', ?_, by simpa using r⟩
  have hadd : (⟨b, 0, none⟩ : Addr).add (n * sz) = ⟨b, n * sz, none⟩ := by rw [addr_add]; simp
  rcases hs with ⟨a', c', rfl, ⟨d, hd⟩, hrd⟩ | ⟨s, rfl, hd, rfl, rfl⟩ | ⟨k, rfl, ⟨k', hd⟩, hmi, rfl⟩
  · have hyd' : (Builtin.firstCells sz m (.slice a' m c')).run P w = .ok ys.toArray w := run_firstCells hrd hw hyl
    simp [Builtin.append_, run_underlying (slQ_spec ht), run_underlying hd, run_sizeOf hsz, Builtin.lenOf, Result.andThen, hr, hyd', hadd, hst]
  · have hyd' : (Builtin.firstCells sz s.size (.string s)).run P w = .ok (s.data.map fun b => Value.int .u8 b.toNat) w := by
      simp only [Builtin.firstCells, Sem.run_pure]
      congr 2
      simp
    simp only [Array.toList_map] at hst
    simp [Builtin.append_, run_underlying (slQ_spec ht), run_underlying hd, run_sizeOf hsz, Builtin.lenOf, Result.andThen, hr, hyd', hadd, hst]
  · have hmw : IntKind.i64.wrap (m : Int) = m := w_i64 (by omega) hmi
    have hby0 : ¬ (281474976710656 < (m : Int) * (i.bytes : Int)) := by
      have h1 : m * i.bytes ≤ (n + m) * i.bytes := Nat.mul_le_mul_right _ (by omega)
      rw [hib] at h1 ⊢
      have : ((m * by_ : Nat) : Int) ≤ 140737488355328 := by omega
      push_cast at this; omega
    by_cases h0 : m * sz = 0
    · have hmn : ¬ ((m : Int) < 0) := by omega
      have hz0 : zfill zv.cells (m * sz) = #[] := by rw [h0]; simp [zfill]
      rw [hz0] at hst
      simp only [Array.toList_empty] at hst
      simp [Builtin.append_, run_underlying (slQ_spec ht), run_underlying hd, run_sizeOf hsz, asInt, asIntOf, hmw, Result.andThen, hr, hby0, h0, hmn, typeInfo, hi, hadd, hst]
    · have hmn : ¬ ((m : Int) < 0) := by omega
      have hzz : Builtin.zeroCells zv.cells m = zfill zv.cells (m * sz) := by simp [Builtin.zeroCells, zfill, hzs]
      simp [Builtin.append_, run_underlying (slQ_spec ht), run_underlying hd, run_sizeOf hsz, asInt, asIntOf, hmw, Result.andThen, hr, hby0, h0, typeInfo, zeroValue, hi, hiz, hadd, hzz, hst, hmn]

theorem splice_list : ∀ (ys : List Value) (off : Nat) (cs : Array Value), off + ys.length ≤ cs.size → (splice cs off ys).toList = cs.toList.take off ++ ys ++ cs.toList.drop (off + ys.length) := by
  intro ys
  induction ys with
  | nil => intro off cs _; simp [splice]
  | cons v r ih =>
    intro off cs h
    simp only [List.length_cons] at h
    rw [splice, ih _ _ (by simp; omega)]
    have hlt : off < cs.toList.length := by simp; omega
    have e1 : (cs.setIfInBounds off v).toList = cs.toList.take off ++ v :: cs.toList.drop (off + 1) := by
      rw [Array.toList_setIfInBounds, List.set_eq_take_append_cons_drop, if_pos hlt]
    have hl : (cs.toList.take off).length = off := by simp; omega
    rw [e1]
    rw [List.take_append, List.drop_append, hl]
    have a1 : off + 1 - off = 1 := by omega
    have a2 : off + 1 + r.length - off = r.length + 1 := by omega
    rw [a1, a2, List.take_of_length_le (by omega : (cs.toList.take off).length ≤ off + 1), List.drop_eq_nil_of_le (by omega : (cs.toList.take off).length ≤ off + 1 + r.length)]
    simp only [List.take_succ_cons, List.take_zero, List.drop_succ_cons, List.drop_drop, List.nil_append, List.length_cons, List.append_assoc, List.cons_append]
    congr 4
    omega

/-- append to a slice of one's own, whose row starts at a block's head. -/
theorem Does.append {s : Operand} {xt e sz by_ m n c i b : Nat} {zv v : Value} {xs sp ys : List Value} (hs : ev E s = some (.slice (some ⟨b, 0, none⟩) n c)) (hx : ev E x = some v)
    (ht : slQ P t = some e) (hsz : sizQ P e = some sz) (hby : bytQ P e = some by_) (hz : zerQ P e = some zv) (hzs : zv.cells.size = sz)
    (hi : M[i]? = some (b, row e (xs ++ sp))) (hxl : xs.length = n * sz) (hcl : xs.length + sp.length = c * sz) (hsrc : Src P M sz zv xt v m ys) (hyl : ys.length = m * sz) (h1 : ∀ u ∈ ys, one u = true)
    (hb : (n + m) * by_ ≤ 140737488355328) (hm : n + m ≤ 9223372036854775807) :
    Does P N z E M ⟨dst, .call ⟨.builtin .append, #[s, x], #[t, xt]⟩, ty, pos, af, gu⟩
      (fun u M' => ∃ b' sp' c', u = .slice (some ⟨b', 0, none⟩) (n + m) c' ∧ (xs ++ ys).length + sp'.length = c' * sz ∧ M' = (b', row e (xs ++ ys ++ sp')) :: M.eraseIdx i) := fun a w K Q ha hw k => by
  have hgb := hw.at hi
  have hunf : ∀ r : Result Value, (Builtin.append_ #[t, xt] ty #[.slice (some ⟨b, 0, none⟩) n c, v]).run P w = r →
      (execOp a.eval ⟨dst, .call ⟨.builtin .append, #[s, x], #[t, xt]⟩, ty, pos, af, gu⟩).run P w = r.andThen fun v w => .ok (.value v) w := fun r hr => by
    simp [execOp, resolve, invoke, builtin, ha.ev hs, ha.ev hx, hr]
  by_cases hr : n + m ≤ c
  · have hmul : (n + m) * sz ≤ c * sz := Nat.mul_le_mul_right _ hr
    rw [Nat.add_mul] at hmul
    obtain ⟨w', hrun, e1, e2, e3, hb', hk⟩ := run_room (ty := ty) ht hsz hby hz hzs hsrc hyl h1 hb hr (cs := (xs ++ sp).toArray) (by simp; omega) hw hgb
    simp only [Oper.wp, hunf _ hrun, Result.andThen, Oper.upon]
    refine k _ _ w' ⟨b, sp.drop ys.length, c, rfl, by simp; omega, rfl⟩ ?_
    refine (hw.front i hi).setFront e1 e2 e3 ?_ hk
    rw [hb']
    show some (Obj.cells _ e (0, 0)) = some (Obj.cells _ e (0, 0))
    congr 2
    apply Array.ext'
    rw [splice_list _ _ _ (by simp; omega)]
    simp [← hxl, List.append_assoc]
  · have hrd : RdS M (some ⟨b, 0, none⟩) xs := .some (Rd.mem (T := e) (l := xs ++ sp) (List.mem_of_getElem? hi) (by simp))
    have hrun := run_grow (ty := ty) (n := n) (c := c) ht hsz hby hz hzs hsrc hyl hxl hrd hb hm (by omega) hw hw
    simp only [Oper.wp, hunf _ hrun, Result.andThen, Oper.upon]
    refine k _ _ _ ⟨w.heap.size, (Builtin.zeroCells zv.cells (grownCap w (n + m) c e - (n + m))).toList, grownCap w (n + m) c e, rfl, ?_, rfl⟩ ?_
    · have := grownCap_ge w (n + m) c e
      simp only [List.length_append, Array.length_toList, size_zeroCells, hzs, hxl, hyl, ← Nat.add_mul]
      congr 1; omega
    · have h := hw.drew.alloc (.cells (xs.toArray ++ ys.toArray ++ Builtin.zeroCells zv.cells (grownCap w (n + m) c e - (n + m))) e)
      have he : Own z (w.drew.alloc (.cells (xs.toArray ++ ys.toArray ++ Builtin.zeroCells zv.cells (grownCap w (n + m) c e - (n + m))) e)) ((w.heap.size, .cells (xs.toArray ++ ys.toArray ++ Builtin.zeroCells zv.cells (grownCap w (n + m) c e - (n + m))) e) :: M.eraseIdx i) :=
        h.sublist ((List.eraseIdx_sublist M i).cons_cons _)
      have hrow : row e (xs ++ ys ++ (Builtin.zeroCells zv.cells (grownCap w (n + m) c e - (n + m))).toList) = .cells (xs.toArray ++ ys.toArray ++ Builtin.zeroCells zv.cells (grownCap w (n + m) c e - (n + m))) e := by
        simp only [row]
        congr 1
        apply Array.ext'
        simp
      rw [hrow]
      exact he

/-- append to nil. -/
theorem Does.appendNil {s : Operand} {xt e sz by_ m : Nat} {zv v : Value} {ys : List Value} (hs : ev E s = some (.slice none 0 0)) (hx : ev E x = some v)
    (ht : slQ P t = some e) (hsz : sizQ P e = some sz) (hby : bytQ P e = some by_) (hz : zerQ P e = some zv) (hzs : zv.cells.size = sz)
    (hsrc : Src P M sz zv xt v m ys) (hyl : ys.length = m * sz) (hm0 : 0 < m) (hb : m * by_ ≤ 140737488355328) (hm : m ≤ 9223372036854775807) :
    Does P N z E M ⟨dst, .call ⟨.builtin .append, #[s, x], #[t, xt]⟩, ty, pos, af, gu⟩
      (fun u M' => ∃ b' sp' c', u = .slice (some ⟨b', 0, none⟩) m c' ∧ ys.length + sp'.length = c' * sz ∧ M' = (b', row e (ys ++ sp')) :: M) := fun a w K Q ha hw k => by
  have hrun := run_grow (ty := ty) (xs := []) (a := none) (n := 0) (c := 0) ht hsz hby hz hzs hsrc hyl (by simp) (.nil M _) (by simpa using hb) (by simpa using hm) (by simpa using hm0) hw hw
  have hex : (execOp a.eval ⟨dst, .call ⟨.builtin .append, #[s, x], #[t, xt]⟩, ty, pos, af, gu⟩).run P w = .ok (.value (.slice (some ⟨w.heap.size, 0, none⟩) (0 + m) (grownCap w (0 + m) 0 e))) (w.drew.alloc (.cells ([].toArray ++ ys.toArray ++ Builtin.zeroCells zv.cells (grownCap w (0 + m) 0 e - (0 + m))) e)) := by
    simp only [execOp, resolve, invoke, builtin, Sem.run_bind, Sem.run_pure, Result.andThen, List.map_toArray, List.map_cons, List.map_nil, ha.ev hs, ha.ev hx, hrun]
  simp only [Oper.wp, hex, Oper.upon]
  refine k _ _ _ ⟨w.heap.size, (Builtin.zeroCells zv.cells (grownCap w (0 + m) 0 e - (0 + m))).toList, grownCap w (0 + m) 0 e, by simp, ?_, rfl⟩ ?_
  · have := grownCap_ge w (0 + m) 0 e
    simp only [Array.length_toList, size_zeroCells, hzs, hyl, ← Nat.add_mul]
    congr 1; omega
  · have h := hw.drew.alloc (.cells ([].toArray ++ ys.toArray ++ Builtin.zeroCells zv.cells (grownCap w (0 + m) 0 e - (0 + m))) e)
    have hrow : row e (ys ++ (Builtin.zeroCells zv.cells (grownCap w (0 + m) 0 e - (0 + m))).toList) = .cells ([].toArray ++ ys.toArray ++ Builtin.zeroCells zv.cells (grownCap w (0 + m) 0 e - (0 + m))) e := by
      simp only [row]
      congr 1
      apply Array.ext'
      simp
    rw [hrow]
    exact h
end
end Go.X
