/- The engine: what came in, by the shape of its type. -/
import Derived.Test.YtphoapajlcaoeaaE8
set_option linter.unusedVariables false
set_option linter.unusedSimpArgs false
namespace Go.X
open Go Go.RowKit

inductive Sh where
  | int (k : IntKind) | bool | str
  | sl (sz : Nat) (e : Sh)
  | nil | fld (off sz : Nat) (e rest : Sh)
  | other

/-- the cells are as a value of the shape has them -/
def Fits (W : World) : Sh → List Value → Prop
  | .int k, cs => ∃ n, cs = [.int k n] ∧ (Lit.int k n).wf = true
  | .bool, cs => ∃ b, cs = [.bool b]
  | .str, cs => ∃ s : ByteArray, cs = [.string s] ∧ s.size ≤ maxLen
  | .sl sz e, cs => cs = [.slice none 0 0] ∨ ∃ a len cap, cs = [.slice (some a) len cap] ∧ len ≤ cap ∧ cap ≤ maxLen ∧ ∀ i, i < len → ∃ ds, W.cells? 0 (a.add (i * sz)) sz = some ds ∧ Fits W e ds
  | .nil, _ => True
  | .fld off sz e rest, cs => Fits W e ((cs.drop off).take sz) ∧ Fits W rest cs
  | .other, _ => True

def shq (P : Program) : Nat → TypeId → Sh
  | 0, _ => .other
  | n + 1, t => match P.underlying t with
    | some .bool => .bool
    | some (.int k) => .int k
    | some .string => .str
    | some (.slice e) => .sl (P.cellsOf e) (shq P n e)
    | some (.struct fs) => fs.toList.foldr (fun f r => .fld f.offset (P.cellsOf f.type) (shq P n f.type) r) .nil
    | _ => .other

theorem fits_flds (W : World) (P : Program) (n : Nat) (cs : List Value) : ∀ l : List Field, (∀ f ∈ l, Fits W (shq P n f.type) ((cs.drop f.offset).take (P.cellsOf f.type))) →
    Fits W (l.foldr (fun f r => .fld f.offset (P.cellsOf f.type) (shq P n f.type) r) .nil) cs := by
  intro l
  induction l with
  | nil => intro _; trivial
  | cons f r ih => intro h; exact ⟨h f (List.mem_cons_self ..), ih fun g hg => h g (List.mem_cons_of_mem _ hg)⟩

theorem fits_of_trod {H : Type} {enc : TypeId × Value → H} {P : Program} {W : World} {sp : Nat → Bool} {held : Bool} : ∀ (n fuel : Nat) (t : TypeId) (cs : List Value) (x : DataW H × List MemPlace),
    DataW.trod enc P W 0 sp held fuel t cs = some x → Fits W (shq P n t) cs := by
  intro n
  induction n with
  | zero => intro fuel t cs x h; trivial
  | succ n ih =>
    intro fuel t cs x h
    unfold shq
    split
    · rename_i ht
      obtain ⟨b, h1, _⟩ := DataW.trod_bool ht h
      exact ⟨b, h1⟩
    · rename_i k ht
      obtain ⟨m, h1, _, h3⟩ := DataW.trod_int ht h
      exact ⟨m, h1, h3⟩
    · rename_i ht
      obtain ⟨s, h1, _, h3⟩ := DataW.trod_string ht h
      exact ⟨s, h1, h3⟩
    · rename_i e ht
      rcases DataW.trod_slice ht h with ⟨h0, _⟩ | ⟨a, len, cap, elems, rest, m, _, hcs, rfl, hb, hl, hm, hlen, hel, hsp, hns⟩
      · exact .inl h0
      · refine .inr ⟨a, len, cap, hcs, hl, hm, fun i hi => ?_⟩
        have h1 := hel i hi
        rw [List.getElem?_eq_getElem (by omega)] at h1
        rw [Option.bind_eq_some_iff] at h1
        obtain ⟨ds, hds, hd⟩ := h1
        exact ⟨ds, hds, ih _ _ _ _ hd⟩
    · rename_i fs ht
      obtain ⟨xs, m, _, _, _, hlen, hf⟩ := DataW.trod_struct ht h
      refine fits_flds W P n cs _ fun f hmem => ?_
      obtain ⟨i, hi⟩ := List.getElem?_of_mem hmem
      have hi' : fs[i]? = some f := by simpa using hi
      have hx := hf i f hi'
      have hlt : i < xs.length := by
        have := (List.getElem?_eq_some_iff.1 hi).1
        simp at this; omega
      rw [List.getElem?_eq_getElem hlt] at hx
      exact ih _ _ _ _ hx
    · trivial

theorem fits_Trod {H : Type} {enc : TypeId × Value → H} {P : Program} {W : World} {sp : Nat → Bool} {held : Bool} {t : TypeId} {v : Value} {d : DataW H} {ps : List MemPlace} (h : DataW.Trod enc P W 0 sp held t v d ps) (n : Nat) {s : Sh} (hs : shq P n t = s) : Fits W s v.cells.toList := by
  obtain ⟨fuel, hf⟩ := h
  rw [← hs]
  exact fits_of_trod n fuel t _ _ hf

theorem cells?_get {W : World} {a : Addr} {n : Nat} {ds : List Value} (h : W.cells? 0 a n = some ds) : ds.length = n ∧ ∀ j v, ds[j]? = some v → W.cell? (a.add j) = some v := by
  simp only [World.cells?, Nat.zero_le, if_true] at h
  have hl := mapM_some_length h
  simp at hl
  refine ⟨hl, fun j v hj => ?_⟩
  have hlt := (List.getElem?_eq_some_iff.1 hj).1
  have hr : (List.range n)[j]? = some j := List.getElem?_range (by omega)
  have := mapM_some_get h j j hr
  rw [this, hj]

/-- a slice of integers that came in -/
theorem fits_ints {W : World} {k : IntKind} {cs : List Value} (h : Fits W (.sl 1 (.int k)) cs) : ∃ (a : Option Addr) (zs : List Int) (cap : Nat), cs = [.slice a zs.length cap] ∧ zs.length ≤ cap ∧ cap ≤ maxLen ∧ RdS (allHp W) a (zs.map (Value.int k)) ∧ ∀ n ∈ zs, (Lit.int k n).wf = true := by
  rcases h with rfl | ⟨a, len, cap, rfl, hl, hm, hc⟩
  · exact ⟨none, [], 0, rfl, Nat.le_refl _, by unfold maxLen; omega, .inl rfl, by simp⟩
  · have hex : ∀ i, i < len → ∃ n, W.cell? (a.add i) = some (.int k n) ∧ (Lit.int k n).wf = true := fun i hi => by
      obtain ⟨ds, hds, n, hn, hw⟩ := hc i hi
      obtain ⟨_, hg⟩ := cells?_get hds
      have := hg 0 (.int k n) (by rw [hn]; rfl)
      rw [Nat.mul_one] at this
      have e : (a.add i).add 0 = a.add i := by simp [Addr.add]
      rw [e] at this
      exact ⟨n, this, hw⟩
    let f : Nat → Int := fun i => if h : i < len then Classical.choose (hex i h) else 0
    have hf : ∀ i, i < len → W.cell? (a.add i) = some (.int k (f i)) ∧ (Lit.int k (f i)).wf = true := fun i hi => by
      have e : f i = Classical.choose (hex i hi) := dif_pos hi
      rw [e]
      exact Classical.choose_spec (hex i hi)
    refine ⟨some a, (List.range len).map f, cap, by simp, by simpa using hl, hm, rdS_cells fun i v hv => ?_, fun n hn => ?_⟩
    · simp only [List.getElem?_map, Option.map_eq_some_iff] at hv
      obtain ⟨n, ⟨j, hj, rfl⟩, rfl⟩ := hv
      have hi : i < len := by have := (List.getElem?_eq_some_iff.1 hj).1; simpa using this
      have : j = i := by rw [List.getElem?_range hi] at hj; exact (Option.some.inj hj).symm
      subst this
      exact (hf j hi).1
    · obtain ⟨i, hi, rfl⟩ := List.mem_map.1 hn
      exact (hf i (List.mem_range.1 hi)).2

theorem wf_u8 {n : Int} (h : (Lit.int .u8 n).wf = true) : ∃ c : UInt8, n = c.toNat := by
  have hb : 0 ≤ n ∧ n < 256 := by
    simp [Lit.wf, IntKind.min, IntKind.max, IntKind.signed, IntKind.bits] at h
    omega
  exact ⟨UInt8.ofNat n.toNat, by simp only [UInt8.toNat_ofNat']; omega⟩
theorem wf_i64 {n : Int} (h : (Lit.int .i64 n).wf = true) : -9223372036854775808 ≤ n ∧ n ≤ 9223372036854775807 := by
  simp [Lit.wf, IntKind.min, IntKind.max, IntKind.signed, IntKind.bits] at h
  omega
theorem wf_u32 {n : Int} (h : (Lit.int .u32 n).wf = true) : 0 ≤ n ∧ n ≤ 4294967295 := by
  simp [Lit.wf, IntKind.min, IntKind.max, IntKind.signed, IntKind.bits] at h
  omega
theorem wf_u64 {n : Int} (h : (Lit.int .u64 n).wf = true) : 0 ≤ n ∧ n ≤ 18446744073709551615 := by
  simp [Lit.wf, IntKind.min, IntKind.max, IntKind.signed, IntKind.bits] at h
  omega

/-- a slice of bytes that came in -/
theorem fits_bytes {W : World} {cs : List Value} (h : Fits W (.sl 1 (.int .u8)) cs) : ∃ (a : Option Addr) (l : List UInt8) (cap : Nat), cs = [.slice a l.length cap] ∧ l.length ≤ cap ∧ cap ≤ maxLen ∧ RdS (allHp W) a (bv l) := by
  obtain ⟨a, zs, cap, rfl, hl, hm, hR, hw⟩ := fits_ints h
  have e : bv (zs.map fun n => UInt8.ofNat n.toNat) = zs.map (Value.int .u8) := by
    simp only [bv, List.map_map]
    apply List.map_congr_left
    intro n hn
    obtain ⟨c, rfl⟩ := wf_u8 (hw n hn)
    simp
  exact ⟨a, zs.map fun n => UInt8.ofNat n.toNat, cap, by simp, by simpa using hl, hm, by rw [e]; exact hR⟩

theorem fits_int {W : World} {k : IntKind} {v : Value} (h : Fits W (.int k) [v]) : ∃ n, v = .int k n ∧ (Lit.int k n).wf = true := by
  obtain ⟨n, hn, hw⟩ := h
  cases hn
  exact ⟨n, rfl, hw⟩

theorem one_cell {v : Value} (h : ∀ cs, v ≠ .agg cs) : v.cells.toList = [v] := by
  cases v <;> first | rfl | exact absurd rfl (h _)
end Go.X
