/- The engine: a byte stored; a literal's bytes converted; all of a world's heap; what a law's arguments are. -/
import Derived.Test.YtphoapajlcaoeaaE7
import Derived.ProofKit
set_option linter.unusedVariables false
set_option linter.unusedSimpArgs false
namespace Go.X
open Go Go.RowKit

section
variable {P : Program} {N : Nat} {z : World} {E : Env} {M : Hp}
variable {dst : Option Tmp} {ty : TypeId} {pos : String} {af : Array Edge} {gu : Option (Nat × Bool)} {t yt : TypeId} {x y : Operand}

theorem bv_set (l : List UInt8) (j : Nat) (c : UInt8) : bv (l.set j c) = (bv l).set j (.int .u8 c.toNat) := by simp [bv, List.map_set]

/-- b[j] = c, in a row of one's own -/
theorem Does.storeB {b off i j : Nat} {l : List UInt8} {sp : List Value} {T : TypeId} {c : UInt8} (hx : ev E x = some (.pointer (some ⟨b, off, none⟩))) (hy : ev E y = some (.int .u8 c.toNat)) (hi : M[i]? = some (b, row T (bv l ++ sp))) (ho : off = j) (hj : j < l.length)
    (hn : sizQ P t = some 1) : Does P N z E M ⟨dst, .store t x y, ty, pos, af, gu⟩ (fun u M'' => u = undef ∧ M'' = M.set i (b, row T (bv (l.set j c) ++ sp))) := by
  subst ho
  refine Does.store hx hy hi hn rfl rfl (by simp; omega) (?_ : _ = (bv (l.set off c) ++ sp).toArray) rfl
  apply Array.ext'
  simp only [splice, Value.cells, Array.toList_setIfInBounds, bv_set]
  rw [List.set_append_left _ _ (by simpa using hj)]

/-- []byte("..") of a literal: the row bears the run-time's mark then -/
theorem Does.convSl {e b o n c i : Nat} {cs : Array Value} {T : TypeId} {M' : Hp} (hx : ev E x = some (.slice (some ⟨b, o, none⟩) n c)) (ht : P.underlying t = some (.slice e)) (he : P.underlying e = some (.int .u8)) (hi : M[i]? = some (b, .cells cs T (0, 0)))
    (hM : M.set i (b, .cells cs T (cs.size, cs.size + 1)) = M') : Does P N z E M ⟨dst, .convert t t x, ty, pos, af, gu⟩ (fun u M'' => u = .slice (some ⟨b, o, none⟩) n c ∧ M'' = M') := fun a w K Q ha hw k => by
  subst hM
  have hb := hw.at hi
  have hsh : w.shape? b = some (T, cs.size) := by simp [World.shape?, hb]
  have hex : (execOp a.eval ⟨dst, .convert t t x, ty, pos, af, gu⟩).run P w = .ok (.value (.slice (some ⟨b, o, none⟩) n c)) (w.freeze ⟨b, cs.size, none⟩ 1) := by
    simp [execOp, ha.ev hx, convert, run_underlying ht, run_underlying he, Result.andThen, markStringish, shape, Sem.run, hsh, Go.freeze]
  simp only [Oper.wp, hex, Oper.upon]
  refine k _ _ _ ⟨rfl, rfl⟩ (hw.setAt hi rfl rfl rfl ?_ ?_)
  · simp only [World.freeze, if_neg (by decide : ¬ (1 = 0)), Array.getElem?_modify, if_pos, hb, Option.map_some]
    simp
  · intro k hk
    simp only [World.freeze, if_neg (by decide : ¬ (1 = 0)), Array.getElem?_modify]
    rw [if_neg (fun e => hk e.symm)]
end

/-! ### all of a heap -/

def allHp (w : World) : Hp := (List.range w.heap.size).filterMap fun b => (w.heap[b]?).map fun o => (b, o)

theorem mem_allHp {w : World} {b : Nat} {o : Obj} : (b, o) ∈ allHp w ↔ w.heap[b]? = some o := by
  simp only [allHp, List.mem_filterMap, List.mem_range, Option.map_eq_some_iff]
  constructor
  · rintro ⟨a, _, o', h, he⟩
    cases he
    exact h
  · intro h
    exact ⟨b, (Array.getElem?_eq_some_iff.1 h).1, o, h, rfl⟩

theorem allHp_keys (w : World) : (allHp w).map (·.1) = List.range w.heap.size := by
  simp only [allHp]
  rw [List.map_filterMap]
  have : ∀ l : List Nat, (∀ b ∈ l, b < w.heap.size) → l.filterMap (fun b => ((w.heap[b]?).map fun o => (b, o)).map (·.1)) = l := by
    intro l
    induction l with
    | nil => simp
    | cons b r ih =>
      intro h
      have hb := h b (List.mem_cons_self ..)
      simp only [List.filterMap_cons, Array.getElem?_eq_getElem hb, Option.map_some]
      rw [ih fun c hc => h c (List.mem_cons_of_mem _ hc)]
  exact this _ fun b hb => List.mem_range.1 hb

theorem own_all (w : World) : Own w w (allHp w) := ⟨rfl, rfl, rfl, by rw [allHp_keys]; exact List.nodup_range, fun b o h => mem_allHp.1 h⟩

theorem below_all {w w' : World} (h : Own w w' (allHp w)) : Below w.heap.size w w' := by
  refine ⟨h.os, h.tape, h.output, ?_, fun k hk => ?_⟩
  · rcases Nat.eq_zero_or_pos w.heap.size with h0 | h0
    · omega
    · have hk : w.heap.size - 1 < w.heap.size := by omega
      have := h.mem (w.heap.size - 1) w.heap[w.heap.size - 1] (mem_allHp.2 (Array.getElem?_eq_getElem hk))
      have := (Array.getElem?_eq_some_iff.1 this).1
      omega
  · have := h.mem k w.heap[k] (mem_allHp.2 (Array.getElem?_eq_getElem hk))
    rw [this, Array.getElem?_eq_getElem hk]

/-- A law's contract as the row asks for it. -/
theorem FnC.law {P : Program} {f : FuncId} {args : Array Value} {w : World} (h : FnC P f args (allHp w) (fun v M' => v = .bool true ∧ allHp w = M')) : Calls P f args w fun e w' => e = .returned (.bool true) ∧ Below w.heap.size w w' :=
  (h w w (own_all w)).mono fun e w' ⟨v, M', he, ⟨hv, hM⟩, ho⟩ => by
    subst hv; subst hM
    exact ⟨he, below_all ho⟩

/-- cells that read, one by one, are a row that reads -/
theorem rdS_cells {w : World} {p : Addr} {ys : List Value} (h : ∀ i v, ys[i]? = some v → w.cell? (p.add i) = some v) : RdS (allHp w) (some p) ys := by
  cases ys with
  | nil => exact .inl rfl
  | cons y r =>
    right
    have h0 := h 0 y rfl
    have hp0 : p.add 0 = p := by simp [Addr.add]
    rw [hp0] at h0
    simp only [World.cell?] at h0
    split at h0
    · rename_i cs T fz hb
      split at h0
      · cases h0
      · rename_i hs
        have hsp : p.spot = none := by cases hq : p.spot <;> simp_all
        refine ⟨p, rfl, cs, T, fz, mem_allHp.2 hb, hsp, ?_⟩
        apply List.ext_getElem?
        intro i
        rw [List.getElem?_take]
        split
        · rename_i hi
          have hv := h i _ (List.getElem?_eq_getElem hi)
          obtain ⟨b, off, s⟩ := p
          simp only at hsp; subst hsp
          rw [addr_add, cell_of hb] at hv
          rw [List.getElem?_drop, List.getElem?_eq_getElem hi]
          simpa using hv
        · rename_i hi
          rw [List.getElem?_eq_none (by omega)]
    · cases h0

/-- a slice of bytes that came in -/
theorem rdS_bytes {w : World} {a : Option Addr} {len cap : Nat} {zs : List Int} (h : (a = none ∧ len = 0 ∧ cap = 0 ∧ zs = []) ∨ ∃ x, a = some x ∧ len ≤ cap ∧ cap ≤ maxLen ∧ zs.length = cap ∧ (∀ i, i < zs.length → w.cell? (x.add i) = some (.int .u8 (zs.getD i 0))) ∧ ∀ n ∈ zs, (Lit.int .u8 n).wf = true) :
    ∃ l : List UInt8, len = l.length ∧ len ≤ cap ∧ cap ≤ maxLen ∧ RdS (allHp w) a (bv l) := by
  rcases h with ⟨rfl, rfl, rfl, rfl⟩ | ⟨x, rfl, hl, hm, hz, hc, hw⟩
  · exact ⟨[], rfl, Nat.le_refl _, by unfold maxLen; omega, .inl rfl⟩
  · refine ⟨(zs.take len).map fun n => UInt8.ofNat n.toNat, by simp; omega, hl, hm, rdS_cells fun i v hv => ?_⟩
    simp only [bv, List.map_map, List.getElem?_map, Option.map_eq_some_iff] at hv
    obtain ⟨n, hn, rfl⟩ := hv
    rw [List.getElem?_take] at hn
    split at hn
    · rename_i hi
      have hi2 : i < zs.length := by omega
      rw [hc i hi2]
      have hmem : n ∈ zs := List.mem_of_getElem? hn
      have hwf := hw n hmem
      rw [List.getD_eq_getElem?_getD, hn]
      simp only [Option.getD_some, Function.comp, UInt8.toNat_ofNat']
      have hb : 0 ≤ n ∧ n < 256 := by
        simp [Lit.wf, IntKind.min, IntKind.max, IntKind.signed, IntKind.bits] at hwf
        omega
      congr 2
      omega
    · cases hn
end Go.X
namespace Go.X
open Go
theorem rd_allR {M : Hp} {b : Nat} {e : TypeId} {l : List UInt8} {sp : List Value} {i : Nat} (hi : M[i]? = some (b, row e (bv l ++ sp))) : Rd M ⟨b, 0, none⟩ (bv l) :=
  Rd.mem (T := e) (l := bv l ++ sp) (List.mem_of_getElem? hi) (by simp)
end Go.X
