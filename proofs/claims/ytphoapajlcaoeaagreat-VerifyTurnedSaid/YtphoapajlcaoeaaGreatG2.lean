/- Texts put together: ES12, ES18c, ES7, ES13, ES14, ES15, ES16, ES18d, ES17, E21, E22, E23. -/
import Derived.Test.YtphoapajlcaoeaaGreatG1
import Derived.DataElems
import Derived.DeepKeys
/- Plain words: a message comes back from its bytes; when two tags are the same. -/
set_option linter.unusedVariables false
set_option linter.unusedSimpArgs false
namespace Go.X
open Go Go.RowKit
theorem xor64_eq (a b : Int) : xor64 a b = (((BitVec.ofInt 64 a) ^^^ (BitVec.ofInt 64 b)).toNat : Int) := by
  have h := ((BitVec.ofInt 64 a) ^^^ (BitVec.ofInt 64 b)).isLt
  exact w_u64 (e := (((BitVec.ofInt 64 a) ^^^ (BitVec.ofInt 64 b)).toNat : Int)) (by omega) (by omega)
theorem or64_eq (a b : Int) : bitsOf .or .u64 a b = (((BitVec.ofInt 64 a) ||| (BitVec.ofInt 64 b)).toNat : Int) := by
  have h := ((BitVec.ofInt 64 a) ||| (BitVec.ofInt 64 b)).isLt
  exact w_u64 (e := (((BitVec.ofInt 64 a) ||| (BitVec.ofInt 64 b)).toNat : Int)) (by omega) (by omega)
theorem xor64_bd (a b : Int) : 0 ≤ xor64 a b ∧ xor64 a b ≤ 18446744073709551615 := by
  have h := ((BitVec.ofInt 64 a) ^^^ (BitVec.ofInt 64 b)).isLt
  rw [xor64_eq]; omega
theorem ofInt_inj {a b : Int} (ha : 0 ≤ a ∧ a ≤ 18446744073709551615) (hb : 0 ≤ b ∧ b ≤ 18446744073709551615) (h : BitVec.ofInt 64 a = BitVec.ofInt 64 b) : a = b := by
  have h1 := congrArg BitVec.toNat h
  rw [BitVec.toNat_ofInt, BitVec.toNat_ofInt] at h1
  omega
theorem same_iff {a b c d : Int} (ha : 0 ≤ a ∧ a ≤ 18446744073709551615) (hb : 0 ≤ b ∧ b ≤ 18446744073709551615) (hc : 0 ≤ c ∧ c ≤ 18446744073709551615) (hd : 0 ≤ d ∧ d ≤ 18446744073709551615) :
    bitsOf .or .u64 (xor64 a b) (xor64 c d) = 0 ↔ (a = b ∧ c = d) := by
  rw [or64_eq, xor64_eq, xor64_eq]
  simp only [BitVec.ofInt_natCast, BitVec.ofNat_toNat, BitVec.setWidth_eq]
  constructor
  · intro h
    have h1 : ((BitVec.ofInt 64 a ^^^ BitVec.ofInt 64 b) ||| (BitVec.ofInt 64 c ^^^ BitVec.ofInt 64 d)) = 0#64 := by
      apply BitVec.eq_of_toNat_eq
      simpa using h
    rw [BitVec.or_eq_zero_iff] at h1
    exact ⟨ofInt_inj ha hb (BitVec.xor_eq_zero_iff.1 h1.1), ofInt_inj hc hd (BitVec.xor_eq_zero_iff.1 h1.2)⟩
  · rintro ⟨rfl, rfl⟩
    simp
theorem sipSum_bd (k0 k1 : Int) (l : List UInt8) : 0 ≤ sipSum k0 k1 l ∧ sipSum k0 k1 l ≤ 18446744073709551615 := xor64_bd _ _
theorem byteAt_N (N j : Nat) : (byteAt (N : Int) j).toNat = N / 2 ^ (8 * j) % 256 := by
  have h := b8_toNat ((N : Int) / 2 ^ (8 * j))
  have e : ((N : Int) / 2 ^ (8 * j)) % 256 = ((N / 2 ^ (8 * j) % 256 : Nat) : Int) := by rw [Int.natCast_emod, Int.natCast_ediv, Int.natCast_pow]; rfl
  rw [e] at h
  exact Int.ofNat.inj h
theorem getTo_put {N : Nat} {l : List UInt8} {o : Nat} : ∀ (k : Nat), (∀ j, j < k → l.getD (o + j) 0 = byteAt (N : Int) j) → getTo l o k = N % 2 ^ (8 * k)
  | 0, _ => by show 0 = N % 2 ^ 0; rw [Nat.pow_zero, Nat.mod_one]
  | k + 1, h => by
    rw [getTo, getTo_put k (fun j hj => h j (by omega)), h k (by omega), byteAt_N]
    have e : 2 ^ (8 * (k + 1)) = 2 ^ (8 * k) * 256 := by rw [show 8 * (k + 1) = 8 * k + 8 from by omega, Nat.pow_add]
    rw [e, Nat.mod_mul]
    rw [Nat.mul_comm (2 ^ (8 * k))]
theorem put8_getD (n : Int) {j : Nat} (h : j < 8) : (put8 n).getD j 0 = byteAt n j := by
  have hj : j = 0 ∨ j = 1 ∨ j = 2 ∨ j = 3 ∨ j = 4 ∨ j = 5 ∨ j = 6 ∨ j = 7 := by omega
  rcases hj with rfl | rfl | rfl | rfl | rfl | rfl | rfl | rfl <;> rfl
theorem get8_put {N : Nat} {pre post : List UInt8} (hN : N < 18446744073709551616) : get8 (pre ++ (put8 (N : Int) ++ post)) pre.length = N := by
  have h := getTo_put (N := N) (l := pre ++ (put8 (N : Int) ++ post)) (o := pre.length) 8 (fun j hj => by
    rw [← put8_getD (N : Int) hj, List.getD_eq_getElem?_getD, List.getD_eq_getElem?_getD, List.getElem?_append_right (by omega), Nat.add_sub_cancel_left, List.getElem?_append_left (by rw [put8_len]; exact hj)])
  rw [get8, h]
  exact Nat.mod_eq_of_lt (by simpa using hN)
theorem get8_put' {x : Int} {o : Nat} {pre post : List UInt8} (hx : 0 ≤ x ∧ x ≤ 18446744073709551615) (ho : pre.length = o) : ((get8 (pre ++ (put8 x ++ post)) o : Nat) : Int) = x := by
  subst ho
  obtain ⟨N, rfl⟩ : ∃ N : Nat, x = N := ⟨x.toNat, by omega⟩
  rw [get8_put (by omega)]
theorem b8_small {x : Int} (h : 0 ≤ x ∧ x ≤ 255) : ((b8 x).toNat : Int) = x := by rw [b8_toNat]; omega
section
variable {m : Ms} (hm : mayM m = true)
include hm
theorem putM_kind : (((putM m).getD 1 0).toNat : Int) = m.kind := by
  have h := mayM_iff.1 hm
  exact b8_small (x := m.kind) (by omega)
theorem putM_who : (((putM m).getD 2 0).toNat : Int) = m.who := by
  have h := mayM_iff.1 hm
  exact b8_small (x := m.who) (by omega)
theorem putM_metric : (((putM m).getD 3 0).toNat : Int) = m.metric := by
  have h := mayM_iff.1 hm
  refine b8_small (x := m.metric) ?_
  by_cases hk : m.kind = 1
  · have := h.2.2.2.2.2.1.2.1 hk; omega
  · have := h.2.2.2.2.2.1.2.2 hk; omega
theorem putM_seq : ((get8 (putM m) 8 : Nat) : Int) = m.seq := by
  have h := mayM_iff.1 hm
  rw [putM, w_u64 (e := m.seq) (by omega) (by omega)]
  have e := get8_put' (x := m.seq) (o := 8) (pre := [1, b8 m.kind, b8 m.who, b8 m.metric] ++ (put8 (IntKind.u64.wrap m.gen)).take 4) (post := put8 (IntKind.u64.wrap m.epoch) ++ put8 (IntKind.u64.wrap m.value)) (by omega) (by simp)
  simpa using e
theorem putM_epoch : ((get8 (putM m) 16 : Nat) : Int) = m.epoch := by
  have h := mayM_iff.1 hm
  rw [putM, w_u64 (e := m.epoch) (by omega) (by omega)]
  have e := get8_put' (x := m.epoch) (o := 16) (pre := [1, b8 m.kind, b8 m.who, b8 m.metric] ++ (put8 (IntKind.u64.wrap m.gen)).take 4 ++ put8 (IntKind.u64.wrap m.seq)) (post := put8 (IntKind.u64.wrap m.value)) (by omega) (by simp)
  simpa using e
theorem val_bd : 0 ≤ m.value ∧ m.value ≤ 1099511627776 := by
  have h := mayM_iff.1 hm
  by_cases hk : m.kind = 1
  · have := h.2.2.2.2.2.2.2.1 hk; omega
  · have := h.2.2.2.2.2.2.2.2 hk; omega
theorem putM_value : ((get8 (putM m) 24 : Nat) : Int) = m.value := by
  have h := val_bd hm
  rw [putM, w_u64 (e := m.value) (by omega) (by omega)]
  have e := get8_put' (x := m.value) (o := 24) (pre := [1, b8 m.kind, b8 m.who, b8 m.metric] ++ (put8 (IntKind.u64.wrap m.gen)).take 4 ++ put8 (IntKind.u64.wrap m.seq) ++ put8 (IntKind.u64.wrap m.epoch)) (post := []) (by omega) (by simp)
  simpa using e
end
end Go.X
namespace Go.X
open Go Go.RowKit
theorem putM_gen {m : Ms} (hm : mayM m = true) : IntKind.u32.wrap (IntKind.i64.wrap ((get8 (putM m) 4 : Nat) : Int)) = m.gen := by
  have h := mayM_iff.1 hm
  obtain ⟨N, hN⟩ : ∃ N : Nat, m.gen = N := ⟨m.gen.toNat, by omega⟩
  have h4 := getTo_put (N := N) (l := putM m) (o := 4) 4 (fun j hj => by
    have e : (putM m).getD (4 + j) 0 = (put8 (IntKind.u64.wrap m.gen)).getD j 0 := by
      have hj : j = 0 ∨ j = 1 ∨ j = 2 ∨ j = 3 := by omega
      rcases hj with rfl | rfl | rfl | rfl <;> rfl
    rw [e, w_u64 (e := m.gen) (by omega) (by omega), put8_getD _ (by omega), hN])
  have h8 : ∃ q, get8 (putM m) 4 = getTo (putM m) 4 4 + 4294967296 * q := ⟨((putM m).getD 8 0).toNat + ((putM m).getD 9 0).toNat * 256 + ((putM m).getD 10 0).toNat * 65536 + ((putM m).getD 11 0).toNat * 16777216, by simp only [get8, getTo]; simp only [Nat.reduceMul, Nat.reducePow, Nat.reduceAdd]; omega⟩
  obtain ⟨q, hq⟩ := h8
  have hb : 2 ^ (8 * 4) = 4294967296 := by decide
  rw [hb] at h4
  have hlt := h.2.2.1
  have hN2 : N % 4294967296 = N := Nat.mod_eq_of_lt (by omega)
  rw [hN2] at h4
  rw [h4] at hq
  rw [hq, w_u32m, hN]
  simp only [IntKind.wrap, IntKind.min, IntKind.max, IntKind.bits, IntKind.signed]
  simp
  omega
def fR (l : List UInt8) (i : Nat) : List Value := [.int .u64 (if 0 < i then (get8 l 0 : Nat) else 0), .int .u64 (if 1 < i then (get8 l 8 : Nat) else 0)]
theorem fR_splice {l : List UInt8} {i : Nat} (h : i < 2) : splice (fR l i).toArray i [.int .u64 (get8 l (8 * i) : Nat)] = (fR l (i + 1)).toArray := by
  have hk : i = 0 ∨ i = 1 := by omega
  rcases hk with rfl | rfl <;> simp [fR, splice]
theorem fR_0 (l : List UInt8) : fR l 0 = [.int .u64 0, .int .u64 0] := by simp [fR]
theorem fR_2 (l : List UInt8) : fR l 2 = [.int .u64 (get8 l 0 : Nat), .int .u64 (get8 l 8 : Nat)] := by simp [fR]
end Go.X
/- Plain words for the log: a cell with a byte turned, a torn cell. -/
set_option linter.unusedVariables false
set_option linter.unusedSimpArgs false
namespace Go.X
open Go

theorem xor8 (a b : UInt8) : bitsOf .xor .u8 (a.toNat : Int) (b.toNat : Int) = ((a ^^^ b).toNat : Int) := by
  have ha : a.toNat < 256 := UInt8.toNat_lt _
  have hb : b.toNat < 256 := UInt8.toNat_lt _
  have h : bitsOf .xor .u8 (a.toNat : Int) (b.toNat : Int) = IntKind.u8.wrap (((BitVec.ofInt 8 (a.toNat : Int)) ^^^ (BitVec.ofInt 8 (b.toNat : Int))).toNat : Nat) := rfl
  have hlt : a.toNat ^^^ b.toNat < 2 ^ 8 := Nat.xor_lt_two_pow ha hb
  rw [h, BitVec.ofInt_natCast, BitVec.ofInt_natCast, BitVec.toNat_xor, BitVec.toNat_ofNat, BitVec.toNat_ofNat, Nat.mod_eq_of_lt ha, Nat.mod_eq_of_lt hb, UInt8.toNat_xor]
  exact w_u8 (by omega) (by omega)
theorem xor8_ne {a b : UInt8} (h : b ≠ 0) : a ^^^ b ≠ a := by
  intro e
  apply h
  have : a ^^^ (a ^^^ b) = a ^^^ a := by rw [e]
  rw [← UInt8.xor_assoc, UInt8.xor_self, UInt8.zero_xor] at this
  exact this

theorem pb4_inj {m n : Nat} (hm : m < 4294967296) (hn : n < 4294967296) (h : (put8 (m : Int)).take 4 = (put8 (n : Int)).take 4) : m = n := by
  simp only [put8, pb, List.nil_append, List.cons_append, List.take_succ_cons, List.take_zero, List.cons.injEq, and_true] at h
  obtain ⟨h0, h1, h2, h3⟩ := h
  have e : ∀ k, byteAt (m : Int) k = byteAt (n : Int) k → (((m : Int) / 2 ^ (8 * k)) % 256).toNat = (((n : Int) / 2 ^ (8 * k)) % 256).toNat := fun k hk => by
    rw [← byteAt_nat, ← byteAt_nat, hk]
  have e0 := e 0 h0
  have e1 := e 1 h1
  have e2 := e 2 h2
  have e3 := e 3 h3
  simp only [Nat.reduceMul, Int.reducePow, Int.ediv_one] at e0 e1 e2 e3
  omega

theorem cell_inj {p pl kd p2 pl2 kd2 : Int} {d d2 : List UInt8} (hm : mayC p pl kd d.length = true) (hm2 : mayC p2 pl2 kd2 d2.length = true) :
    cellB p pl kd d = cellB p2 pl2 kd2 d2 ↔ (((p = p2 ∧ pl = pl2) ∧ kd = kd2) ∧ d = d2) := by
  constructor
  · intro h
    refine ⟨⟨⟨?_, ?_⟩, ?_⟩, ?_⟩
    · rw [← cell_pass hm, ← cell_pass hm2, h]
    · rw [← cell_pl hm, ← cell_pl hm2, h]
    · rw [← cell_kd hm, ← cell_kd hm2, h]
    · rw [← cell_d hm, ← cell_d hm2, h]
  · rintro ⟨⟨⟨rfl, rfl⟩, rfl⟩, rfl⟩; rfl

theorem set_append_lt {α : Type} {l m : List α} {k : Nat} {c : α} (h : k < l.length) : (l ++ m).set k c = l.set k c ++ m := by
  rw [List.set_append, if_pos h]
theorem set_append_ge {α : Type} {l m : List α} {k : Nat} {c : α} (h : l.length ≤ k) : (l ++ m).set k c = l ++ m.set (k - l.length) c := by
  rw [List.set_append, if_neg (by omega)]

/-- a valid cell with one byte turned is no cell put again -/
theorem cell_turned {p pl kd : Int} {d : List UInt8} (hm : mayC p pl kd d.length = true) {k : Nat} (hk : k < 64) {c : UInt8} (hc : c ≠ (cellB p pl kd d).getD k 0)
    (h2 : mayL ((cellB p pl kd d).set k c) = true) : againB ((cellB p pl kd d).set k c) ≠ (cellB p pl kd d).set k c := by
  intro h
  obtain ⟨L, hL⟩ : ∃ L, L = (cellB p pl kd d).set k c := ⟨_, rfl⟩
  rw [← hL] at h h2
  have hl : L.length = 64 := by rw [hL, List.length_set, cell_len hm]
  have hm2 : mayC (passOf L : Nat) (plOf L : Nat) (kdOf L : Nat) (dOf L).length = true := by rw [dOf_len hl]; exact h2
  have hlen := bodyB_len p pl kd d (mayC_iff.1 hm).2.2.2.2.2.2
  have hlen2 := bodyB_len (passOf L : Nat) (plOf L : Nat) (kdOf L : Nat) (dOf L) (mayC_iff.1 hm2).2.2.2.2.2.2
  have hne : (cellB p pl kd d).set k c ≠ cellB p pl kd d := fun e => by
    apply hc
    have e1 : ((cellB p pl kd d).set k c).getD k 0 = c := by simp [List.getD_eq_getElem?_getD, cell_len hm, hk]
    rw [← e1, e]
  unfold againB at h
  have hcell : cellB (passOf L : Nat) (plOf L : Nat) (kdOf L : Nat) (dOf L) = (cellB p pl kd d).set k c := by rw [h, hL]
  by_cases h56 : k < 56
  · have e : (cellB p pl kd d).set k c = (bodyB p pl kd d).set k c ++ ((put8 (sum18 (bodyB p pl kd d) : Nat)).take 4 ++ (List.replicate 3 0 ++ [markB p])) := by
      rw [cellB, List.append_assoc, List.append_assoc, set_append_lt (by omega)]
    rw [e, cellB, List.append_assoc, List.append_assoc] at hcell
    obtain ⟨hb, hr⟩ := List.append_inj hcell (by rw [List.length_set, hlen, hlen2])
    obtain ⟨hs, _⟩ := List.append_inj hr (by simp)
    have b1 := sumTo_bd (bodyB p pl kd d) (bodyB p pl kd d).length (by omega)
    have b2 := sumTo_bd (bodyB (passOf L : Nat) (plOf L : Nat) (kdOf L : Nat) (dOf L)) (bodyB (passOf L : Nat) (plOf L : Nat) (kdOf L : Nat) (dOf L)).length (by omega)
    have hs2 := pb4_inj (by unfold sum18; omega) (by unfold sum18; omega) hs
    rw [hb] at hs2
    have := (sum_set (bodyB p pl kd d) k c (by omega)).1 hs2
    apply hc
    rw [this, cellB, List.append_assoc, List.append_assoc]
    simp only [List.getD_eq_getElem?_getD]
    rw [List.getElem?_append_left (by omega)]
  · have e : (cellB p pl kd d).set k c = bodyB p pl kd d ++ ((put8 (sum18 (bodyB p pl kd d) : Nat)).take 4 ++ (List.replicate 3 0 ++ [markB p])).set (k - (bodyB p pl kd d).length) c := by
      rw [cellB, List.append_assoc, List.append_assoc, set_append_ge (by omega)]
    have hcell2 := hcell
    rw [e, cellB, List.append_assoc, List.append_assoc] at hcell2
    obtain ⟨hb, _⟩ := List.append_inj hcell2 (by rw [hlen, hlen2])
    have hp : ((passOf L : Nat) : Int) = p := by
      have : ∀ {q ql qk : Int} {e : List UInt8}, mayC q ql qk e.length = true → (passOf (bodyB q ql qk e) : Int) = q := fun {q ql qk e} hq => by
        have h1 := cell_pass hq
        have h3 : passOf (cellB q ql qk e) = passOf (bodyB q ql qk e) := by
          have hl := bodyB_len q ql qk e (mayC_iff.1 hq).2.2.2.2.2.2
          have : ∀ j, j < 8 → (cellB q ql qk e).getD j 0 = (bodyB q ql qk e).getD j 0 := fun j hj => by
            rw [cellB, List.append_assoc, List.append_assoc]
            simp only [List.getD_eq_getElem?_getD]
            rw [List.getElem?_append_left (by omega)]
          simp only [passOf, get8, getTo, Nat.zero_add]
          rw [this 0 (by omega), this 1 (by omega), this 2 (by omega), this 3 (by omega), this 4 (by omega), this 5 (by omega), this 6 (by omega), this 7 (by omega)]
        rw [← h3]; exact h1
      rw [← this hm, ← this hm2, hb]
    apply hne
    rw [← hcell, cellB, hb, hp]
    rfl

/-- a part of the first byte on, then another one's -/
theorem torn_pass {p pl kd : Int} {d : List UInt8} (hm : mayC p pl kd d.length = true) {l : List UInt8} {k : Nat} (hk : 1 ≤ k) (hk2 : k < 64) (hl : l.length = 64) (h0 : l.getD 1 0 = 0 ∧ l.getD 2 0 = 0 ∧ l.getD 3 0 = 0) :
    (passOf ((cellB p pl kd d).take k ++ l.drop k) : Int) = p ∧ ((cellB p pl kd d).take k ++ l.drop k).getD 63 0 = l.getD 63 0 := by
  have hc := cell_len hm
  have hg : ∀ j, j < 64 → ((cellB p pl kd d).take k ++ l.drop k).getD j 0 = if j < k then (cellB p pl kd d).getD j 0 else l.getD j 0 := fun j hj => by
    simp only [List.getD_eq_getElem?_getD]
    by_cases h : j < k
    · rw [if_pos h, List.getElem?_append_left (by simp; omega), List.getElem?_take_of_lt h]
    · rw [if_neg h, List.getElem?_append_right (by simp; omega), List.getElem?_drop, List.length_take, Nat.min_eq_left (by omega)]
      congr 2; omega
  refine ⟨?_, ?_⟩
  · obtain ⟨h1, h2, _⟩ := mayC_iff.1 hm
    have hb := fun k => byteAt_nat p k
    have e0 := hb 0
    have e1 := hb 1
    have e2 := hb 2
    have e3 := hb 3
    have c0 : (cellB p pl kd d).getD 0 0 = byteAt p 0 := by rw [cell_head]; rfl
    have c1 : (cellB p pl kd d).getD 1 0 = byteAt p 1 := by rw [cell_head]; rfl
    have c2 : (cellB p pl kd d).getD 2 0 = byteAt p 2 := by rw [cell_head]; rfl
    have c3 : (cellB p pl kd d).getD 3 0 = byteAt p 3 := by rw [cell_head]; rfl
    have hz : (0 : UInt8).toNat = 0 := rfl
    simp only [Nat.reduceMul, Int.reducePow, Nat.reducePow, Int.ediv_one, Nat.mul_one] at e0 e1 e2 e3
    have g0 : (((cellB p pl kd d).take k ++ l.drop k).getD 0 0).toNat = p.toNat := by rw [hg 0 (by omega), if_pos (by omega), c0]; omega
    have g1 : (((cellB p pl kd d).take k ++ l.drop k).getD 1 0).toNat = 0 := by rw [hg 1 (by omega)]; split; rw [c1]; omega; rw [h0.1]; rfl
    have g2 : (((cellB p pl kd d).take k ++ l.drop k).getD 2 0).toNat = 0 := by rw [hg 2 (by omega)]; split; rw [c2]; omega; rw [h0.2.1]; rfl
    have g3 : (((cellB p pl kd d).take k ++ l.drop k).getD 3 0).toNat = 0 := by rw [hg 3 (by omega)]; split; rw [c3]; omega; rw [h0.2.2]; rfl
    simp only [passOf, get8, getTo, Nat.zero_add, g0, g1, g2, g3]
    simp only [Nat.reduceMul, Int.reducePow, Nat.reducePow, Int.ediv_one, Nat.mul_one]
    omega
  · rw [hg 63 (by omega), if_neg (by omega)]
theorem cell_top {p pl kd : Int} {d : List UInt8} (hm : mayC p pl kd d.length = true) : (cellB p pl kd d).getD 1 0 = 0 ∧ (cellB p pl kd d).getD 2 0 = 0 ∧ (cellB p pl kd d).getD 3 0 = 0 := by
  obtain ⟨h1, h2, _⟩ := mayC_iff.1 hm
  have e1 := byteAt_nat p 1
  have e2 := byteAt_nat p 2
  have e3 := byteAt_nat p 3
  simp only [Nat.reduceMul, Int.reducePow] at e1 e2 e3
  rw [cell_head]
  simp only [List.getD_cons_succ, List.getD_cons_zero]
  refine ⟨?_, ?_, ?_⟩ <;> apply UInt8.toNat_inj.1 <;> show _ = 0 <;> omega
theorem mark_inj {p q : Int} (h1 : 1 ≤ p ∧ p ≤ 250) (h2 : 0 ≤ q ∧ q ≤ 250) (h : (markB p).toNat = (markB q).toNat) : p = q := by
  unfold markB at h
  rw [if_neg (by omega), if_neg (by omega)] at h
  have a := b8_nat p
  have b := b8_nat q
  omega
/-- over another pass -/
theorem torn_other {p pl kd p2 pl2 kd2 : Int} {d d2 : List UInt8} (hm : mayC p pl kd d.length = true) (hm2 : mayC p2 pl2 kd2 d2.length = true) (hne : p ≠ p2) {k : Nat} (hk : 1 ≤ k) (hk2 : k < 64) :
    wholeB ((cellB p pl kd d).take k ++ (cellB p2 pl2 kd2 d2).drop k) = false := by
  obtain ⟨h1, h2⟩ := torn_pass hm hk hk2 (cell_len hm2) (cell_top hm2)
  cases hw : wholeB ((cellB p pl kd d).take k ++ (cellB p2 pl2 kd2 d2).drop k) with
  | false => rfl
  | true =>
    exfalso
    simp only [wholeB, h1, h2, cell_last hm2, Bool.and_eq_true, decide_eq_true_eq] at hw
    obtain ⟨a1, a2, _⟩ := mayC_iff.1 hm
    obtain ⟨b1, b2, _⟩ := mayC_iff.1 hm2
    exact hne (mark_inj ⟨b1, b2⟩ ⟨by omega, a2⟩ (by have := hw.2; omega)).symm
/-- over noughts -/
theorem torn_zero {p pl kd : Int} {d : List UInt8} (hm : mayC p pl kd d.length = true) {k : Nat} (hk2 : k < 64) :
    wholeB ((cellB p pl kd d).take k ++ (List.replicate 64 (0 : UInt8)).drop k) = false := by
  by_cases h0 : k = 0
  · subst h0
    simp only [List.take_zero, List.nil_append, List.drop_zero]
    decide
  · obtain ⟨h1, h2⟩ := torn_pass hm (by omega) hk2 (List.length_replicate (n := 64) (a := (0 : UInt8))) ⟨rfl, rfl, rfl⟩
    cases hw : wholeB ((cellB p pl kd d).take k ++ (List.replicate 64 (0 : UInt8)).drop k) with
    | false => rfl
    | true =>
      exfalso
      have hz : (List.replicate 64 (0 : UInt8)).getD 63 0 = 0 := rfl
      simp only [wholeB, h1, h2, hz, Bool.and_eq_true, decide_eq_true_eq] at hw
      obtain ⟨a1, a2, _⟩ := mayC_iff.1 hm
      have := hw.2
      unfold markB at this
      rw [if_neg (by omega)] at this
      have b := b8_nat p
      have hzz : (0 : UInt8).toNat = 0 := rfl
      omega
end Go.X
namespace Go.X
open Go
theorem rdS_takeB {M : Hp} {A : Option Addr} {l : List UInt8} (h : RdS M A (bv l)) (k : Nat) : RdS M A (bv (l.take k)) := by
  rw [bv_take]
  rcases h with h | ⟨p, hp, h⟩
  · exact .inl (by rw [h, List.take_nil])
  · exact .inr ⟨p, hp, h.take k⟩
/-- the kept cell's data -/
theorem kept {M : Hp} {A : Option Addr} {l : List UInt8} {n k : Nat} (h : RdS M A (bv l)) (hn : n = l.length) (hk : k ≤ n) : ∃ d : List UInt8, k = d.length ∧ RdS M A (bv d) :=
  ⟨l.take k, by rw [List.length_take]; omega, rdS_takeB h k⟩
theorem own_two {z : World} {x y u v : Nat × Obj} {M : Hp} (w : World) (h : Own z w (x :: y :: u :: v :: M)) : Own z w (x :: y :: M) :=
  h.sublist (.cons_cons _ (.cons_cons _ (.cons _ (.cons _ (.refl _)))))
theorem own_two' {z : World} {x y u v : Nat × Obj} {M : Hp} (w : World) (h : Own z w (y :: x :: u :: v :: M)) : Own z w (x :: y :: M) :=
  own_two w (h.perm (List.Perm.swap _ _ _))
end Go.X
namespace Go.X
open Go
theorem turned_fin {p pl kd : Int} {d : List UInt8} (hm : mayC p pl kd d.length = true) {k : Nat} (hk : k < 64) {x : UInt8} {ok : Bool} {e P : Int}
    (hok : ok = wholeB ((cellB p pl kd d).set k ((cellB p pl kd d).getD k 0 ^^^ x)))
    (h : (e = 0 ∧ (ok = true → againB ((cellB p pl kd d).set k ((cellB p pl kd d).getD k 0 ^^^ x)) = (cellB p pl kd d).set k ((cellB p pl kd d).getD k 0 ^^^ x) ∧ mayL ((cellB p pl kd d).set k ((cellB p pl kd d).getD k 0 ^^^ x)) = true ∧ P = (passOf ((cellB p pl kd d).set k ((cellB p pl kd d).getD k 0 ^^^ x)) : Nat))) ∨
      (e = 12 ∧ ok = true ∧ ¬ (mayL ((cellB p pl kd d).set k ((cellB p pl kd d).getD k 0 ^^^ x)) = true ∧ againB ((cellB p pl kd d).set k ((cellB p pl kd d).getD k 0 ^^^ x)) = (cellB p pl kd d).set k ((cellB p pl kd d).getD k 0 ^^^ x)))) :
    ((x.toNat : Int) = 0 ∧ ok = true ∧ e = 0) ∨ ((x.toNat : Int) ≠ 0 ∧ ((ok = false ∧ e = 0) ∨ (ok = true ∧ e = 12))) := by
  by_cases hx : x = 0
  · subst hx
    have e1 : (cellB p pl kd d).set k ((cellB p pl kd d).getD k 0 ^^^ 0) = cellB p pl kd d := by
      rw [UInt8.xor_zero]
      apply List.ext_getElem (by simp)
      intro i h1 h2
      rw [List.getElem_set]
      split
      · rename_i hi; subst hi; simp [List.getD_eq_getElem?_getD, h2]
      · rfl
    rw [e1] at h hok
    refine .inl ⟨rfl, hok.trans (cell_whole hm), ?_⟩
    rcases h with ⟨h, _⟩ | ⟨_, _, h⟩
    · exact h
    · exact absurd ⟨cell_may hm, cell_again hm⟩ h
  · refine .inr ⟨fun h0 => hx (UInt8.toNat_inj.1 (by simpa using h0)), ?_⟩
    cases ok with
    | false => exact .inl ⟨rfl, by rcases h with ⟨h, _⟩ | ⟨_, h, _⟩ <;> first | exact h | cases h⟩
    | true =>
      refine .inr ⟨rfl, ?_⟩
      rcases h with ⟨_, h⟩ | ⟨h, _⟩
      · obtain ⟨h1, h2, _⟩ := h rfl
        exact absurd h1 (cell_turned hm hk (xor8_ne hx) h2)
      · exact h
end Go.X
namespace Go.X
open Go
theorem torn_fin {p pl kd p2 pl2 kd2 : Int} {d d2 : List UInt8} (hm : mayC p pl kd d.length = true) (hm2 : mayC p2 pl2 kd2 d2.length = true) (hne : p ≠ p2) {k : Nat} (hk : k < 64) {zr ok : Bool} {e P : Int} {lz L : List UInt8}
    (hlz : lz = if zr = true then List.replicate 64 (0 : UInt8) else cellB p2 pl2 kd2 d2) (hL : L = (cellB p pl kd d).take k ++ lz.drop k) (hok : ok = wholeB L)
    (h : (e = 0 ∧ (ok = true → againB L = L ∧ mayL L = true ∧ P = (passOf L : Nat))) ∨ (e = 12 ∧ ok = true ∧ ¬ (mayL L = true ∧ againB L = L))) :
    (ok = false ∧ e = 0) ∨ (ok = true ∧ zr = false ∧ e = 0 ∧ P = p2) := by
  cases ok with
  | false => exact .inl ⟨rfl, by rcases h with ⟨h, _⟩ | ⟨_, h, _⟩ <;> first | exact h | cases h⟩
  | true =>
    cases zr with
    | true => rw [if_pos rfl] at hlz; rw [hL, hlz, torn_zero hm hk] at hok; cases hok
    | false =>
      rw [if_neg (by decide)] at hlz
      by_cases h0 : k = 0
      · have e1 : L = cellB p2 pl2 kd2 d2 := by rw [hL, hlz, h0]; simp
        rw [e1] at h
        refine .inr ⟨rfl, rfl, ?_⟩
        rcases h with ⟨h1, h2⟩ | ⟨_, _, h⟩
        · exact ⟨h1, (h2 rfl).2.2.trans (cell_pass hm2)⟩
        · exact absurd ⟨cell_may hm2, cell_again hm2⟩ h
      · rw [hL, hlz, torn_other hm hm2 hne (by omega) hk] at hok; cases hok
theorem lz_len {p2 pl2 kd2 : Int} {d2 lz : List UInt8} (hm2 : mayC p2 pl2 kd2 d2.length = true) {zr : Bool} (hlz : lz = if zr = true then List.replicate 64 (0 : UInt8) else cellB p2 pl2 kd2 d2) : lz.length = 64 := by
  rw [hlz]; split
  · simp
  · exact cell_len hm2
end Go.X
/- Plain words for collectors, good and bad. -/
set_option linter.unusedVariables false
set_option linter.unusedSimpArgs false
namespace Go.X
open Go Go.RowKit
structure Smp where
  who : Int
  metric : Int
  epoch : Int
  value : Int
abbrev Smp.cs (x : Smp) : List Value := [.int .i64 x.who, .int .i64 x.metric, .int .i64 x.epoch, .int .i64 x.value]
theorem Smp.cs_len (x : Smp) : x.cs.length = 4 := rfl
structure Sr where
  b : Nat
  w : Int
  g : Int
  q : Int
abbrev Sr.ptr (r : Sr) : Value := .pointer (some ⟨r.b, 0, none⟩)
/-- the places below k that are bad -/
def badTo (l : List Bool) : Nat → List Int
  | 0 => []
  | k + 1 => badTo l k ++ (if l.getD k false = true then [(k : Int)] else [])
def bads (l : List Bool) : List Int := badTo l l.length
theorem badTo_t {l : List Bool} {k : Nat} {x : Bool} (h : l[k]? = some x) (c : x = true) : badTo l (k + 1) = badTo l k ++ [(k : Int)] := by
  subst c; simp [badTo, List.getD_eq_getElem?_getD, h]
theorem badTo_f {l : List Bool} {k : Nat} {x : Bool} (h : l[k]? = some x) (c : x = false) : badTo l (k + 1) = badTo l k := by
  subst c; simp [badTo, List.getD_eq_getElem?_getD, h]
theorem badTo_le (l : List Bool) : ∀ k, (badTo l k).length ≤ k
  | 0 => by simp [badTo]
  | k + 1 => by
    have := badTo_le l k
    simp only [badTo]
    split <;> simp <;> omega
theorem one_ptr (b : Nat) : ∀ u ∈ [Value.pointer (some ⟨b, 0, none⟩)], one u = true := by intro u hu; simp at hu; subst hu; rfl
theorem one_int (k : IntKind) (n : Int) : ∀ u ∈ [Value.int k n], one u = true := by intro u hu; simp at hu; subst hu; rfl
theorem get_push {α : Type} {l : List α} {x : α} {P : Nat → α → Prop} (h : ∀ j r, l[j]? = some r → P j r) (hx : P l.length x) : ∀ j r, (l ++ [x])[j]? = some r → P j r := fun j r hj => by
  by_cases h1 : j < l.length
  · rw [List.getElem?_append_left h1] at hj; exact h j r hj
  · rw [List.getElem?_append_right (by omega)] at hj
    have h2 : j - l.length = 0 := by
      have := (List.getElem?_eq_some_iff.1 hj).1
      simp at this; omega
    rw [h2] at hj
    simp at hj
    have : j = l.length := by omega
    subst this; subst hj; exact hx
end Go.X
/- Moving blocks: for the gate. -/
set_option linter.unusedVariables false
set_option linter.unusedSimpArgs false
namespace Go.X
open Go Go.RowKit
theorem ro_mv2 {z : World} {q p g r o x : Nat × Obj} {L T Q : Hp} : ∀ w, Own z w (q :: (L ++ (p :: g :: r :: o :: x :: (T ++ Q)))) → Own z w (T ++ (q :: (L ++ (p :: g :: r :: o :: x :: Q)))) := fun w h => by
  have h1 := ro_mv (A := q :: (L ++ [p, g, r, o, x])) (L := T) (R := Q) w (by simpa using h)
  simpa using h1
theorem ro_gt {z : World} {q p g r o x : Nat × Obj} {L T Q : Hp} : ∀ w, Own z w (T ++ (q :: (L ++ (p :: g :: r :: o :: x :: Q)))) → Own z w (g :: r :: o :: x :: (L ++ (T ++ (p :: q :: Q)))) := fun w h => by
  have h1 := ro_mv (A := T ++ (q :: (L ++ [p]))) (L := [g, r, o, x]) (R := Q) w (by simpa using h)
  have h2 := h1.perm (M' := [g, r, o, x] ++ ((L ++ (T ++ [p, q])) ++ Q)) (by
    refine List.Perm.append_left _ (List.Perm.append_right Q ?_)
    have a1 : (T ++ (q :: (L ++ [p]))).Perm (q :: (T ++ (L ++ [p]))) := List.perm_middle
    have a2 : (q :: (T ++ (L ++ [p]))).Perm (q :: (L ++ (T ++ [p]))) := List.Perm.cons q (by
      rw [← List.append_assoc, ← List.append_assoc]
      exact List.perm_append_comm.append_right [p])
    have a3 : (q :: (L ++ (T ++ [p]))).Perm ((L ++ (T ++ [p])) ++ [q]) := (List.perm_append_singleton q _).symm
    refine a1.trans (a2.trans (a3.trans ?_))
    simp)
  simpa using h2
theorem ro_gi {z : World} {q p : Nat × Obj} {A L T X Y M : Hp} : ∀ w, Own z w (A ++ (L ++ (T ++ (p :: q :: (X ++ (Y ++ M)))))) → Own z w (A ++ (L ++ (T ++ ((X ++ [p]) ++ ((Y ++ [q]) ++ M))))) := fun w h => h.perm (by
  refine List.Perm.append_left A (List.Perm.append_left L (List.Perm.append_left T ?_))
  have a1 : (p :: q :: (X ++ (Y ++ M))).Perm (p :: (X ++ (q :: (Y ++ M)))) := List.Perm.cons p List.perm_middle.symm
  have a2 : (p :: (X ++ (q :: (Y ++ M)))).Perm (p :: (X ++ (Y ++ (q :: M)))) := List.Perm.cons p (List.Perm.append_left X List.perm_middle.symm)
  have a3 : (p :: (X ++ (Y ++ (q :: M)))).Perm (X ++ (p :: (Y ++ (q :: M)))) := List.perm_middle.symm
  refine a1.trans (a2.trans (a3.trans ?_))
  simp)
end Go.X
namespace Go.X
theorem ro_pre1 {z : World} {a : Nat × Obj} {L : Hp} : ∀ w, Own z w (a :: L) → Own z w [a] := ro_pre (M := [a]) (L := L)
end Go.X
namespace Go.X
theorem ro_pre2 {z : World} {a b : Nat × Obj} {L : Hp} : ∀ w, Own z w (a :: b :: L) → Own z w [a, b] := ro_pre (M := [a, b]) (L := L)
end Go.X
/- Moving blocks: for a rotation. -/
set_option linter.unusedVariables false
set_option linter.unusedSimpArgs false
namespace Go.X
open Go Go.RowKit
theorem ro_gb {z : World} {a r o n l k b : Nat × Obj} {T : Hp} : ∀ w, Own z w (a :: r :: o :: n :: l :: k :: b :: T) → Own z w [a, b] := fun w h => h.sublist (by
  refine List.Sublist.cons_cons a ?_
  refine (List.Sublist.cons r (List.Sublist.cons o (List.Sublist.cons n (List.Sublist.cons l (List.Sublist.cons k ?_)))))
  exact List.Sublist.cons_cons b (List.nil_sublist T))
theorem row_set {α : Type} {f : α → Value} {l : List α} {s : List Value} {k : Nat} (h : k < l.length) (a : α) : (l.map f ++ s).take k ++ [f a] ++ (l.map f ++ s).drop (k + 1) = (l.set k a).map f ++ s := by
  rw [List.take_append_of_le_length (by simp; omega), List.drop_append_of_le_length (by simp; omega), ← List.append_assoc, map_set1 h a]
theorem ro_rt {z : World} {n a b c d e k m : Nat × Obj} {T : Hp} : ∀ w, Own z w (n :: a :: b :: c :: d :: e :: k :: m :: T) → Own z w (a :: b :: c :: d :: e :: n :: T) := fun w h => by
  have h1 := ro_mv (A := [n]) (L := [a, b, c, d, e]) (R := k :: m :: T) w h
  refine h1.sublist ?_
  simp only [List.cons_append, List.nil_append]
  exact ((((((List.Sublist.refl T).cons m).cons k).cons_cons n).cons_cons e).cons_cons d |>.cons_cons c |>.cons_cons b |>.cons_cons a)
end Go.X
/- Plain words: a tag comes back from its bytes; one that was spoilt does not. -/
set_option linter.unusedVariables false
set_option linter.unusedSimpArgs false
namespace Go.X
open Go Go.RowKit
theorem tagOf_bd (k : K2) (l : List UInt8) : (0 ≤ (tagOf k l).a ∧ (tagOf k l).a ≤ 18446744073709551615) ∧ (0 ≤ (tagOf k l).b ∧ (tagOf k l).b ≤ 18446744073709551615) := ⟨sipSum_bd _ _ _, sipSum_bd _ _ _⟩
theorem tagB_get {t : K2} (ha : 0 ≤ t.a ∧ t.a ≤ 18446744073709551615) (hb : 0 ≤ t.b ∧ t.b ≤ 18446744073709551615) : ((get8 (tagB t) 0 : Nat) : Int) = t.a ∧ ((get8 (tagB t) 8 : Nat) : Int) = t.b := by
  constructor
  · have h := get8_put' (x := t.a) (o := 0) (pre := []) (post := put8 t.b) ha rfl
    simpa [tagB] using h
  · have h := get8_put' (x := t.b) (o := 8) (pre := put8 t.a) (post := []) hb (by simp)
    simpa [tagB] using h
theorem same_yes {t : K2} (ha : 0 ≤ t.a ∧ t.a ≤ 18446744073709551615) (hb : 0 ≤ t.b ∧ t.b ≤ 18446744073709551615) : bitsOf .or .u64 (xor64 t.a (get8 (tagB t) 0 : Nat)) (xor64 t.b (get8 (tagB t) 8 : Nat)) = 0 := by
  obtain ⟨h1, h2⟩ := tagB_get ha hb
  rw [h1, h2]
  exact (same_iff ha ha hb hb).2 ⟨rfl, rfl⟩
theorem get8_mod (l : List UInt8) (o : Nat) : get8 l o % 256 = (l.getD o 0).toNat := by
  have h := UInt8.toNat_lt (l.getD o 0)
  simp only [get8, getTo, Nat.reduceMul, Nat.reducePow, Nat.reduceAdd, Nat.add_zero]
  omega
theorem get8_bd (l : List UInt8) (o : Nat) : 0 ≤ ((get8 l o : Nat) : Int) ∧ ((get8 l o : Nat) : Int) ≤ 18446744073709551615 := by
  have h := getTo_lt l o 8
  have e : 2 ^ (8 * 8) = 18446744073709551616 := by decide
  rw [e] at h
  unfold get8; omega
theorem same_no {t : K2} (ha : 0 ≤ t.a ∧ t.a ≤ 18446744073709551615) (hb : 0 ≤ t.b ∧ t.b ≤ 18446744073709551615) {c : UInt8} (hc : c ≠ (tagB t).getD 8 0) :
    bitsOf .or .u64 (xor64 t.a (get8 ((tagB t).set 8 c) 0 : Nat)) (xor64 t.b (get8 ((tagB t).set 8 c) 8 : Nat)) ≠ 0 := fun h => by
  have h1 := ((same_iff ha (get8_bd _ _) hb (get8_bd _ _)).1 h).2
  have h2 := (tagB_get ha hb).2
  have h3 : get8 ((tagB t).set 8 c) 8 = get8 (tagB t) 8 := by omega
  have h4 := get8_mod ((tagB t).set 8 c) 8
  rw [h3, get8_mod] at h4
  have h5 : ((tagB t).set 8 c).getD 8 0 = c := by rw [List.getD_eq_getElem?_getD, List.getElem?_set, if_pos rfl, if_pos (by simp)]; rfl
  rw [h5] at h4
  exact hc (UInt8.toNat_inj.1 h4.symm)
theorem list4 {α : Type} {l : List α} (h : l.length = 4) : ∃ a b c d, l = [a, b, c, d] := by
  match l, h with
  | [a, b, c, d], _ => exact ⟨a, b, c, d, rfl⟩
end Go.X
namespace Go.X
theorem putM_tag (k : K2) (m : Ms) : sealB k m = putM m ++ tagB (tagOf k (putM m)) := rfl
end Go.X
namespace Go.X
open Go
theorem ro_bxf {z : World} {s g r o n l b : Nat × Obj} {X Y M : Hp} : ∀ w, Own z w (s :: g :: r :: o :: n :: l :: (X ++ (Y ++ (b :: M)))) → Own z w (g :: r :: o :: n :: l :: b :: s :: (X ++ (Y ++ M))) := fun w h => by
  have h1 := ro_mv (A := s :: g :: r :: o :: n :: l :: (X ++ Y)) (L := [b]) (R := M) w (by simpa using h)
  have h2 := ro_mv (A := [b, s]) (L := [g, r, o, n, l]) (R := X ++ (Y ++ M)) w (by simpa using h1)
  simpa using h2
end Go.X
/- Plain words for the reference's hash. -/
set_option linter.unusedVariables false
set_option linter.unusedSimpArgs false
namespace Go.X
open Go Go.RowKit
theorem xor64_comm (a b : Int) : xor64 a b = xor64 b a := by rw [xor64_eq, xor64_eq, BitVec.xor_comm]
def padB (l : List UInt8) : List UInt8 := l ++ List.replicate (7 - l.length % 8) 0 ++ [b8 l.length]
theorem padB_len (l : List UInt8) : (padB l).length = 8 * (l.length / 8) + 8 := by
  simp [padB]; omega
theorem get8_pre {l m : List UInt8} {o : Nat} (h : o + 8 ≤ l.length) : get8 (l ++ m) o = get8 l o := by
  have key : ∀ n, n ≤ 8 → getTo (l ++ m) o n = getTo l o n := fun n => by
    induction n with
    | zero => intro _; rfl
    | succ n ih =>
      intro hn
      rw [getTo, getTo, ih (by omega)]
      congr 2
      simp only [List.getD_eq_getElem?_getD]
      rw [List.getElem?_append_left (by omega)]
  exact key 8 (Nat.le_refl _)
theorem absorb_pad (l : List UInt8) (w : W4) : ∀ k, k ≤ l.length / 8 → absorb (padB l) k w = absorb l k w
  | 0, _ => rfl
  | k + 1, h => by
    rw [absorb, absorb, absorb_pad l w k (by omega)]
    congr 2
    rw [padB, List.append_assoc, get8_pre (by omega)]
theorem sum_pad (k : K2) (l : List UInt8) : endW (absorb (padB l) (l.length / 8 + 1) (keyW k.a k.b)) = sipSum k.a k.b l := by
  rw [sipSum, absorb, absorb_pad l _ _ (Nat.le_refl _)]
  congr 3
  rw [← get8_drop (padB l) (8 * (l.length / 8))]
  congr 1
  rw [padB, lastB, List.append_assoc, List.drop_append_of_le_length (by omega), List.append_assoc]
abbrev wc (w : W4) : Array Value := #[.int .u64 w.a, .int .u64 w.b, .int .u64 w.c, .int .u64 w.d]
end Go.X
/- Plain words for the log: what Put and Get answer, as one function each; the reference's ways to it. -/
set_option linter.unusedVariables false
set_option linter.unusedSimpArgs false
namespace Go.X
open Go
theorem pb_set {n : Int} {k : Nat} (hk : k < 8) : (pb n k ++ List.replicate (8 - k) 0).set k (byteAt n k) = pb n (k + 1) ++ List.replicate (8 - (k + 1)) 0 := by
  rw [set_append_ge (by simp), pb_len, Nat.sub_self]
  have e : 8 - k = (8 - (k + 1)) + 1 := by omega
  rw [e, List.replicate_succ, List.set_cons_zero, pb, List.append_assoc]
  rfl
def putP (p pl kd : Int) (d : List UInt8) : List UInt8 × Int := if mayC p pl kd d.length = true then (cellB p pl kd d, 0) else ([], 1)
structure GetRes where
  p : Int
  pl : Int
  kd : Int
  d : List UInt8
  ok : Bool
  e : Int
def getP (l : List UInt8) : GetRes :=
  if l.length ≠ 64 then ⟨0, 0, 0, [], false, 1⟩
  else if wholeB l = false then ⟨0, 0, 0, [], false, 0⟩
  else if mayL l = true ∧ againB l = l then ⟨(passOf l : Nat), (plOf l : Nat), (kdOf l : Nat), dOf l, true, 0⟩
  else ⟨0, 0, 0, [], true, 12⟩

theorem get8_head {l : List UInt8} (h : 4 ≤ l.length) : get8 ((l.take 4).drop 0 ++ [0, 0, 0, 0]) 0 = passOf l := by
  match l, h with
  | a :: b :: c :: d :: r, _ =>
    have ha : a.toNat < 256 := UInt8.toNat_lt _
    have hb : b.toNat < 256 := UInt8.toNat_lt _
    have hc : c.toNat < 256 := UInt8.toNat_lt _
    have hd : d.toNat < 256 := UInt8.toNat_lt _
    have hz : (0 : UInt8).toNat = 0 := rfl
    simp only [passOf, get8, getTo, List.take_succ_cons, List.take_zero, List.drop_zero, List.cons_append, List.nil_append, List.getD_cons_zero, List.getD_cons_succ, Nat.zero_add, hz]
    simp only [Nat.reduceMul, Nat.reducePow, Nat.mul_one]
    omega
theorem body_ref {p pl kd : Int} {d : List UInt8} (h : 0 ≤ pl ∧ pl ≤ 4096) :
    ((put8 p).take 4).drop 0 ++ ((put8 pl).take 2).drop 0 ++ [b8 kd, b8 d.length] ++ d ++ List.replicate (48 - d.length) 0 = bodyB p pl kd d := by
  have e : (put8 pl).take 2 = [b8 pl, b8 (pl / 256)] := by simp [put8, pb, byteAt]
  simp only [bodyB, headB, List.drop_zero, e, List.append_assoc, List.cons_append, List.nil_append]
theorem cell_ref {p pl kd : Int} {d : List UInt8} : bodyB p pl kd d ++ ((put8 (sum18 (bodyB p pl kd d) : Nat)).take 4).drop 0 ++ [0, 0, 0, markB p] = cellB p pl kd d := by
  simp only [cellB, List.drop_zero, List.append_assoc]
  rfl
/-- the reference's question: is it not whole? -/
theorem whole_ref (l : List UInt8) : ((decide (((passOf l : Nat) : Int) = 0) || decide (((passOf l : Nat) : Int) > 250)) || decide (((l.getD 63 0).toNat : Int) ≠ ((markB (passOf l : Nat)).toNat : Int))) = !wholeB l := by
  simp only [wholeB]
  by_cases h1 : ((passOf l : Nat) : Int) = 0
  · simp [h1]
  · by_cases h2 : ((passOf l : Nat) : Int) > 250
    · have : ¬ ((passOf l : Nat) : Int) ≤ 250 := by omega
      simp [h1, h2, this]
    · have h3 : (1 : Int) ≤ ((passOf l : Nat) : Int) := by omega
      have h4 : ((passOf l : Nat) : Int) ≤ 250 := by omega
      by_cases h5 : ((l.getD 63 0).toNat : Int) = ((markB (passOf l : Nat)).toNat : Int)
      · simp only [h1, h2, h3, h4, h5]; simp
      · simp only [h1, h2, h3, h4, h5]; simpa using h5
end Go.X
namespace Go.X
open Go
theorem getP_1 {l : List UInt8} (h : l.length ≠ 64) : getP l = ⟨0, 0, 0, [], false, 1⟩ := by rw [getP, if_pos h]
theorem getP_2 {l : List UInt8} (h : l.length = 64) (hw : wholeB l = false) : getP l = ⟨0, 0, 0, [], false, 0⟩ := by rw [getP, if_neg (by omega), if_pos hw]
theorem getP_3 {l : List UInt8} (h : l.length = 64) (hw : wholeB l = true) (hq : ¬ (mayL l = true ∧ againB l = l)) : getP l = ⟨0, 0, 0, [], true, 12⟩ := by
  rw [getP, if_neg (by omega), if_neg (by rw [hw]; decide), if_neg hq]
theorem getP_4 {l : List UInt8} (h : l.length = 64) (hw : wholeB l = true) (hq : mayL l = true ∧ againB l = l) : getP l = ⟨(passOf l : Nat), (plOf l : Nat), (kdOf l : Nat), dOf l, true, 0⟩ := by
  rw [getP, if_neg (by omega), if_neg (by rw [hw]; decide), if_pos hq]
theorem passOf_lt (l : List UInt8) : passOf l < 4294967296 := Nat.mod_lt _ (by decide)
theorem whole_le {l : List UInt8} (h : wholeB l = true) : passOf l ≤ 250 := by
  simp only [wholeB, Bool.and_eq_true, decide_eq_true_eq] at h
  omega
theorem dOf_alt (l : List UInt8) : (l.take (8 + nOf l)).drop 8 = dOf l := by
  rw [List.drop_take, dOf, Nat.add_sub_cancel_left]
theorem putP_yes {p pl kd : Int} {d : List UInt8} (h : mayC p pl kd d.length = true) : putP p pl kd d = (cellB p pl kd d, 0) := by rw [putP, if_pos h]
theorem putP_no {p pl kd : Int} {d : List UInt8} (h : mayC p pl kd d.length = false) : putP p pl kd d = ([], 1) := by rw [putP, if_neg (by rw [h]; decide)]
theorem putP_iff {l : List UInt8} (hl : l.length = 64) : ((putP (passOf l : Nat) (plOf l : Nat) (kdOf l : Nat) (dOf l)).2 = 0 ∧ (putP (passOf l : Nat) (plOf l : Nat) (kdOf l : Nat) (dOf l)).1 = l) ↔ (mayL l = true ∧ againB l = l) := by
  have e : mayL l = mayC (passOf l : Nat) (plOf l : Nat) (kdOf l : Nat) (dOf l).length := by rw [dOf_len hl]; rfl
  rw [e]
  cases h : mayC (passOf l : Nat) (plOf l : Nat) (kdOf l : Nat) (dOf l).length with
  | true => rw [putP_yes h]; simp [againB]
  | false => rw [putP_no h]; simp
end Go.X
/- Plain words: a message read from any bytes. -/
set_option linter.unusedVariables false
set_option linter.unusedSimpArgs false
namespace Go.X
open Go Go.RowKit
def decM (l : List UInt8) : Ms := ⟨((l.getD 1 0).toNat : Nat), ((l.getD 2 0).toNat : Nat), IntKind.u32.wrap (IntKind.i64.wrap ((get8 l 4 : Nat) : Int)), IntKind.i64.wrap ((get8 l 8 : Nat) : Int), IntKind.i64.wrap ((get8 l 16 : Nat) : Int), IntKind.i64.wrap ((get8 l 24 : Nat) : Int), ((l.getD 3 0).toNat : Nat)⟩
def okL (l : List UInt8) : Bool := mayM (decM l) && decide (putM (decM l) = l)
theorem okL_iff {l : List UInt8} : okL l = true ↔ mayM (decM l) = true ∧ putM (decM l) = l := by simp [okL]
theorem decM_put {m : Ms} (hm : mayM m = true) : decM (putM m) = m := by
  have h := mayM_iff.1 hm
  have hv := val_bd hm
  cases m with
  | mk kind who gen seq epoch value metric =>
    have e1 := putM_kind hm; have e2 := putM_who hm; have e3 := putM_gen hm; have e4 := putM_seq hm; have e5 := putM_epoch hm; have e6 := putM_value hm; have e7 := putM_metric hm
    simp only at e1 e2 e3 e4 e5 e6 e7 h hv
    simp only [decM, e1, e2, e3, e4, e5, e6, e7]
    rw [w_i64 (by omega) (by omega), w_i64 (by omega) (by omega), w_i64 (by omega) (by omega)]
theorem okL_put {m : Ms} (hm : mayM m = true) : okL (putM m) = true := by rw [okL_iff, decM_put hm]; exact ⟨hm, rfl⟩
theorem u32_bd (x : Int) : 0 ≤ IntKind.u32.wrap x ∧ IntKind.u32.wrap x ≤ 4294967295 := by
  rw [w_u32m]; omega
theorem decM_bd (l : List UInt8) : (0 ≤ (decM l).kind ∧ (decM l).kind ≤ 255) ∧ (0 ≤ (decM l).who ∧ (decM l).who ≤ 255) ∧ (0 ≤ (decM l).gen ∧ (decM l).gen ≤ 4294967295) ∧ (0 ≤ (decM l).metric ∧ (decM l).metric ≤ 255) := by
  have h1 := UInt8.toNat_lt (l.getD 1 0); have h2 := UInt8.toNat_lt (l.getD 2 0); have h3 := UInt8.toNat_lt (l.getD 3 0)
  have h4 := u32_bd (IntKind.i64.wrap ((get8 l 4 : Nat) : Int))
  refine ⟨?_, ?_, h4, ?_⟩ <;> simp only [decM] <;> omega
theorem wb (c : UInt8) : IntKind.i64.wrap ((c.toNat : Nat) : Int) = ((c.toNat : Nat) : Int) := by
  have := UInt8.toNat_lt c
  exact w_i64 (by omega) (by omega)
theorem wu32 (x : Int) : IntKind.i64.wrap (IntKind.u32.wrap x) = IntKind.u32.wrap x := by
  have := u32_bd x
  exact w_i64 (by omega) (by omega)
theorem wrap_mid (S q : Nat) (hS : S < 4294967296) : IntKind.i64.wrap ((S : Nat) : Int) = IntKind.u32.wrap (IntKind.i64.wrap ((S + 4294967296 * q : Nat) : Int)) := by
  rw [w_i64 (by omega) (by omega), w_u32m]
  simp only [IntKind.wrap, IntKind.min, IntKind.max, IntKind.bits, IntKind.signed]
  simp
  omega
theorem getTo_ext {l m : List UInt8} {o p : Nat} : ∀ k, (∀ j, j < k → l.getD (o + j) 0 = m.getD (p + j) 0) → getTo l o k = getTo m p k
  | 0, _ => rfl
  | k + 1, h => by rw [getTo, getTo, getTo_ext k (fun j hj => h j (by omega)), h k (by omega)]
theorem getTo_zero {l : List UInt8} {o n : Nat} (k : Nat) (h : ∀ j, j < k → l.getD (o + (n + j)) 0 = 0) : getTo l o (n + k) = getTo l o n := by
  induction k with
  | zero => rw [Nat.add_zero]
  | succ k ih =>
    have e : getTo l o (n + (k + 1)) = getTo l o (n + k) + (l.getD (o + (n + k)) 0).toNat * 2 ^ (8 * (n + k)) := rfl
    rw [e, ih (fun j hj => h j (by omega)), h k (by omega)]
    simp
theorem getTo_mid (l : List UInt8) (o n : Nat) (k : Nat) : ∃ q, getTo l o (n + k) = getTo l o n + 2 ^ (8 * n) * q := by
  induction k with
  | zero => exact ⟨0, by rw [Nat.add_zero, Nat.mul_zero, Nat.add_zero]⟩
  | succ k ih =>
    obtain ⟨q, hq⟩ := ih
    refine ⟨q + (l.getD (o + (n + k)) 0).toNat * 2 ^ (8 * k), ?_⟩
    have e : getTo l o (n + (k + 1)) = getTo l o (n + k) + (l.getD (o + (n + k)) 0).toNat * 2 ^ (8 * (n + k)) := rfl
    rw [e, hq, Nat.mul_add, Nat.pow_add, Nat.add_assoc, Nat.mul_left_comm, Nat.mul_add]
theorem get8_split (l : List UInt8) (o : Nat) : ∃ q, get8 l o = getTo l o 4 + 4294967296 * q := getTo_mid l o 4 4
theorem get8_zero {l : List UInt8} {o : Nat} (h : ∀ j, j < 4 → l.getD (o + (4 + j)) 0 = 0) : get8 l o = getTo l o 4 := getTo_zero (n := 4) 4 h
theorem gen_ref (l : List UInt8) (h : 8 ≤ l.length) : IntKind.i64.wrap ((get8 ((l.drop 4).take 4 ++ [0, 0, 0, 0]) 0 : Nat) : Int) = (decM l).gen := by
  obtain ⟨q, hq⟩ := get8_split l 4
  have hl4 : ((l.drop 4).take 4).length = 4 := by simp; omega
  have e0 : get8 ((l.drop 4).take 4 ++ [0, 0, 0, 0]) 0 = getTo l 4 4 := by
    rw [get8_zero (fun j hj => by
      rw [List.getD_eq_getElem?_getD, List.getElem?_append_right (by omega), hl4]
      have hj : j = 0 ∨ j = 1 ∨ j = 2 ∨ j = 3 := by omega
      rcases hj with rfl | rfl | rfl | rfl <;> rfl)]
    exact getTo_ext 4 (fun j hj => by
      rw [List.getD_eq_getElem?_getD, List.getElem?_append_left (by omega), List.getElem?_take_of_lt (by omega), List.getElem?_drop, List.getD_eq_getElem?_getD, Nat.zero_add])
  have hlt : getTo l 4 4 < 4294967296 := getTo_lt l 4 4
  rw [e0]
  simp only [decM]
  rw [hq]
  generalize getTo l 4 4 = S at *
  exact wrap_mid S q hlt
theorem getTo_byte (l : List UInt8) (o j : Nat) : ∀ k, j < k → getTo l o k / 2 ^ (8 * j) % 256 = (l.getD (o + j) 0).toNat
  | 0, h => absurd h (Nat.not_lt_zero _)
  | k + 1, h => by
    rw [getTo]
    have hlt := getTo_lt l o k
    by_cases hj : j = k
    · subst hj
      rw [Nat.add_mul_div_right _ _ (Nat.two_pow_pos _), Nat.div_eq_of_lt hlt, Nat.zero_add]
      exact Nat.mod_eq_of_lt (UInt8.toNat_lt _)
    · have ih := getTo_byte l o j k (by omega)
      have e : (l.getD (o + k) 0).toNat * 2 ^ (8 * k) = ((l.getD (o + k) 0).toNat * 2 ^ (8 * (k - j - 1))) * 256 * 2 ^ (8 * j) := by
        rw [show 8 * k = 8 * (k - j - 1) + 8 + 8 * j by omega, Nat.pow_add, Nat.pow_add, show (2 : Nat) ^ 8 = 256 from rfl]
        simp only [Nat.mul_assoc]
      rw [e, Nat.add_mul_div_right _ _ (Nat.two_pow_pos _), Nat.add_mul_mod_self_right, ih]
theorem get8_byte (l : List UInt8) (o j : Nat) (hj : j < 8) : get8 l o / 2 ^ (8 * j) % 256 = (l.getD (o + j) 0).toNat := getTo_byte l o j 8 hj
theorem tag_inj {l m : List UInt8} (hl : l.length = 16) (hm : m.length = 16) (h0 : get8 l 0 = get8 m 0) (h8 : get8 l 8 = get8 m 8) : l = m := by
  apply List.ext_getElem (by omega)
  intro i h1 h2
  have e : (l.getD i 0).toNat = (m.getD i 0).toNat := by
    by_cases hi : i < 8
    · have a := get8_byte l 0 i hi; have b := get8_byte m 0 i hi
      rw [Nat.zero_add] at a b
      rw [← a, ← b, h0]
    · have a := get8_byte l 8 (i - 8) (by omega); have b := get8_byte m 8 (i - 8) (by omega)
      rw [show 8 + (i - 8) = i by omega] at a b
      rw [← a, ← b, h8]
  have e2 := UInt8.toNat_inj.1 e
  simpa [List.getD_eq_getElem?_getD, List.getElem?_eq_getElem h1, List.getElem?_eq_getElem h2] using e2
theorem same_dec (t : K2) (l : List UInt8) (ha : 0 ≤ t.a ∧ t.a ≤ 18446744073709551615) (hb : 0 ≤ t.b ∧ t.b ≤ 18446744073709551615) :
    decide (bitsOf .or .u64 (xor64 t.a (get8 l 0 : Nat)) (xor64 t.b (get8 l 8 : Nat)) = 0) = (decide (t.a = (get8 l 0 : Nat)) && decide (t.b = (get8 l 8 : Nat))) := by
  have h := same_iff ha (get8_bd l 0) hb (get8_bd l 8)
  by_cases h1 : t.a = (get8 l 0 : Nat) <;> by_cases h2 : t.b = (get8 l 8 : Nat) <;> simp_all
end Go.X
/- The engine: blocks in any order. -/
set_option linter.unusedVariables false
namespace Go.X
open Go Go.RowKit
/-- Heaps up to order. -/
def HQ : Type := Quotient (List.isSetoid (Nat × Obj))
def toQ (M : Hp) : HQ := Quotient.mk (List.isSetoid (Nat × Obj)) M
def HQ.add (a b : HQ) : HQ := Quotient.lift₂ (fun x y => toQ (x ++ y)) (fun _ _ _ _ h1 h2 => Quotient.sound (List.Perm.append h1 h2)) a b
instance : Add HQ := ⟨HQ.add⟩
instance : Std.Associative (α := HQ) (· + ·) := ⟨fun a b c => by
  induction a using Quotient.ind
  induction b using Quotient.ind
  induction c using Quotient.ind
  exact congrArg toQ (List.append_assoc _ _ _)⟩
instance : Std.Commutative (α := HQ) (· + ·) := ⟨fun a b => by
  induction a using Quotient.ind
  induction b using Quotient.ind
  exact Quotient.sound List.perm_append_comm⟩
def q1 (x : Nat × Obj) : HQ := toQ [x]
theorem toQ_app (L M : Hp) : toQ (L ++ M) = toQ L + toQ M := rfl
theorem toQ_cm (x : Nat × Obj) (M : Hp) : toQ (x :: M) = q1 x + toQ M := rfl
theorem q_zero (a : HQ) : a + toQ [] = a := by
  induction a using Quotient.ind
  exact congrArg toQ (List.append_nil _)
theorem zero_q (a : HQ) : toQ [] + a = a := by
  induction a using Quotient.ind
  rfl
/-- the same blocks in another order -/
theorem ro_ac {z : World} {M M' : Hp} (h : toQ M' = toQ M := by simp only [Go.X.toQ_cm, Go.X.toQ_app, Go.X.q_zero, Go.X.zero_q]; try ac_rfl) : ∀ w, Own z w M → Own z w M' := fun w o => o.perm (Quotient.exact h).symm
theorem Own.ac {z w : World} {M M' : Hp} (o : Own z w M) (h : toQ M' = toQ M := by simp only [Go.X.toQ_cm, Go.X.toQ_app, Go.X.q_zero, Go.X.zero_q]; try ac_rfl) : Own z w M' := o.perm (Quotient.exact h).symm
end Go.X
/- The engine: slices of records that came in; what a contract leaves, in another order. -/
set_option linter.unusedVariables false
set_option linter.unusedSimpArgs false
namespace Go.X
open Go Go.RowKit
theorem FnC.post {P : Program} {f : FuncId} {args : Array Value} {M : Hp} {R R' : Value → Hp → Prop} (h : FnC P f args M R) (hr : ∀ v M1, R v M1 → ∃ M2, R' v M2 ∧ ∀ z w, Own z w M1 → Own z w M2) : FnC P f args M R' := fun z w hw =>
  (h z w hw).mono fun _ _ ⟨v, M1, he, hR, ho⟩ => by
    obtain ⟨M2, h1, h2⟩ := hr _ _ hR
    exact ⟨v, M2, he, h1, h2 _ _ ho⟩
theorem fits_recs {W : World} {e : Sh} {sz : Nat} {cs : List Value} (hsz : 0 < sz) (h : Fits W (.sl sz e) cs) : ∃ (a : Option Addr) (xs : List (List Value)) (cap : Nat), cs = [.slice a xs.length cap] ∧ xs.length ≤ cap ∧ cap ≤ maxLen ∧ RdS (allHp W) a xs.flatten ∧ ∀ x ∈ xs, x.length = sz ∧ Fits W e x := by
  rcases h with rfl | ⟨a, len, cap, rfl, hl, hm, hc⟩
  · exact ⟨none, [], 0, rfl, Nat.le_refl _, by unfold maxLen; omega, .inl rfl, by simp⟩
  · let f : Nat → List Value := fun i => if h : i < len then Classical.choose (hc i h) else []
    have hf : ∀ i, i < len → W.cells? 0 (a.add (i * sz)) sz = some (f i) ∧ Fits W e (f i) := fun i hi => by
      have e : f i = Classical.choose (hc i hi) := dif_pos hi
      rw [e]
      exact Classical.choose_spec (hc i hi)
    have hlen : ∀ i, i < len → (f i).length = sz := fun i hi => (cells?_get (hf i hi).1).1
    have hflat : ∀ n, n ≤ len → ((List.range n).map f).flatten.length = n * sz ∧ ∀ i v, ((List.range n).map f).flatten[i]? = some v → W.cell? (a.add i) = some v := by
      intro n
      induction n with
      | zero => intro _; simp
      | succ n ih =>
        intro hn
        obtain ⟨h1, h2⟩ := ih (by omega)
        have hfn := hlen n (by omega)
        rw [List.range_succ, List.map_append, List.flatten_append]
        refine ⟨by simp [h1, hfn, Nat.add_mul], fun i v hv => ?_⟩
        by_cases hi : i < n * sz
        · rw [List.getElem?_append_left (by omega)] at hv
          exact h2 i v hv
        · rw [List.getElem?_append_right (by omega), h1] at hv
          simp at hv
          have := (cells?_get (hf n (by omega)).1).2 (i - n * sz) v hv
          rw [Addr.add_add] at this
          rw [show n * sz + (i - n * sz) = i by omega] at this
          exact this
    refine ⟨some a, (List.range len).map f, cap, by simp, by simpa using hl, hm, rdS_cells fun i v hv => (hflat len (Nat.le_refl _)).2 i v hv, fun x hx => ?_⟩
    obtain ⟨i, hi, rfl⟩ := List.mem_map.1 hx
    have hi := List.mem_range.1 hi
    exact ⟨hlen i hi, (hf i hi).2⟩
end Go.X
/- The engine: arrays of two that are compared. -/
set_option linter.unusedVariables false
set_option linter.unusedSimpArgs false
namespace Go.X
open Go Go.RowKit
section
variable {P : Program}
theorem EqV.arr2 {t e : TypeId} {k : IntKind} {a b c d : Int} (ht : arQ P t = some (2, e)) (hs : sizQ P e = some 1) (hg : aggQ P e = some false) (hi : intQ P e = some k) :
    EqV P 2 t (.agg #[.int .u64 a, .int .u64 b]) (.agg #[.int .u64 c, .int .u64 d]) (decide (a = c) && decide (b = d)) := fun dd w => by
  have hu : P.underlying t = some (.array 2 e) := arQ_spec ht
  obtain ⟨i, hinf⟩ : ∃ i, P.info? e = some i := by
    cases h : P.info? e with
    | none => simp [sizQ, h] at hs
    | some i => exact ⟨i, rfl⟩
  have hc : P.cellsOf e = 1 := by simp only [sizQ, hinf, Option.map_some, Option.some.injEq] at hs; simp [Program.cellsOf, hinf, hs]
  rw [show dd + 2 = (dd + 1) + 1 by omega, run_equalIn_array w (dd + 1) _ _ hu hinf, hc]
  have p : ∀ (xs : Array Value) (o : Nat) (v : Value), xs[o]? = some v → (part e xs o).run P w = .ok v w := fun xs o v h => by
    simp [part, run_isAgg hg, Result.andThen, h]
  have r1 := fun (x y : Int) => run_equalIn_int (P := P) w dd e .u64 k x y (intQ_spec hi)
  simp only [List.range_succ, List.range_zero, List.nil_append, List.cons_append, Op.eqItems, Sem.run_bind]
  rw [p _ _ _ (show (#[Value.int .u64 a, .int .u64 b] : Array Value)[0 * 1]? = some (.int .u64 a) from rfl)]
  simp only [Result.andThen_ok]
  rw [p _ _ _ (show (#[Value.int .u64 c, .int .u64 d] : Array Value)[0 * 1]? = some (.int .u64 c) from rfl)]
  simp only [Result.andThen_ok, r1]
  by_cases h1 : a = c
  · simp only [h1, beq_self_eq_true, Bool.not_true, Bool.false_eq_true, if_false, decide_true, Bool.true_and, Sem.run_bind]
    rw [p _ _ _ (show (#[Value.int .u64 c, .int .u64 b] : Array Value)[1 * 1]? = some (.int .u64 b) from rfl)]
    simp only [Result.andThen_ok]
    rw [p _ _ _ (show (#[Value.int .u64 c, .int .u64 d] : Array Value)[1 * 1]? = some (.int .u64 d) from rfl)]
    simp only [Result.andThen_ok, r1]
    by_cases h2 : b = d <;> simp [h2]
  · simp [h1]
end
end Go.X
