/- The engine: short forms for regions whose order is drawn. -/
import Derived.Test.YtphoapajlcaoeaaE9c
set_option linter.unusedVariables false
namespace Go.X
open Go Go.RowKit
/-- n marks, those that stand in a number -/
def ls (n m : Nat) : Array Bool := ((List.range n).map fun i => m.testBit i).toArray
section
variable {P : Program} {N : Nat} {z : World} {Q : Exit → Act → World → Prop} {E : Env} {M Mro : Hp} {ops : Array Oper} {fuel n m : Nat}
theorem TC.drawL {id : Nat} (Mro : Hp) (hm : P.follows .mixedOrders = true) (n : Nat) (h : TA P N z ops Q Mro ops.size (ls n 0) E M) (h0 : Array.replicate ops.size false = ls n 0 := by kernel_rfl) : TC P N z Q (.region id ops true) E M :=
  TC.draw Mro hm (h0 ▸ h)
theorem TC.drawLM {id : Nat} (hm : P.follows .mixedOrders = true) (n : Nat) (h : TA P N z ops Q M ops.size (ls n 0) E M) (h0 : Array.replicate ops.size false = ls n 0 := by kernel_rfl) : TC P N z Q (.region id ops true) E M :=
  TC.draw M hm (h0 ▸ h)
theorem TA.tk (i m' : Nat) {o : Oper} {d : Nat} {v : Value} (hi : ops[i]? = some o) (hg : o.guard = none) (hd : o.dst = some d) (h : Val P N z E Mro o v) (k : TA P N z ops Q Mro fuel (ls n m') ((d, v) :: E) M)
    (hN : d < N := by exact Nat.le_of_ble_eq_true rfl) (hs : Region.noSelect ops = true := by kernel_rfl) (hf : Region.free .any ops (ls n m) i = true := by kernel_rfl) (hr : (Region.ready .any ops (ls n m)).contains i = true := by kernel_rfl)
    (hl : (ls n m).setIfInBounds i true = ls n m' := by kernel_rfl) (hro : ∀ w, Own z w M → Own z w Mro := by repeat (first | exact Go.X.ro_refl | exact Go.X.ro_pre | refine Go.X.ro_tail ?_ | refine Go.X.ro_app ?_)) : TA P N z ops Q Mro (fuel + 1) (ls n m) E M :=
  TA.take i hi hg hd hN hs hf hr hl hro h k
theorem TA.gtk (i m' : Nat) {o : Oper} {d j dj : Nat} {want g : Bool} {v : Value} (hi : ops[i]? = some o) (hg : o.guard = some (j, want)) (hd : o.dst = some d) (hj : (ops[j]?).bind (·.dst) = some dj) (hb : look E dj = some (.bool g)) (h : g = want → Val P N z E Mro o v) (k : TA P N z ops Q Mro fuel (ls n m') ((d, gd g want v) :: E) M)
    (hN : d < N := by exact Nat.le_of_ble_eq_true rfl) (hM : dj < N := by exact Nat.le_of_ble_eq_true rfl) (hs : Region.noSelect ops = true := by kernel_rfl) (hf : Region.free .any ops (ls n m) i = true := by kernel_rfl) (hr : (Region.ready .any ops (ls n m)).contains i = true := by kernel_rfl)
    (hl : (ls n m).setIfInBounds i true = ls n m' := by kernel_rfl) (hro : ∀ w, Own z w M → Own z w Mro := by repeat (first | exact Go.X.ro_refl | exact Go.X.ro_pre | refine Go.X.ro_tail ?_ | refine Go.X.ro_app ?_)) : TA P N z ops Q Mro (fuel + 1) (ls n m) E M :=
  TA.gtake i hi hg hd hN hj hM hb hs hf hr hl hro h k
theorem TA.tkY (i m' : Nat) {o : Oper} {d j dj : Nat} {want : Bool} {v : Value} (hi : ops[i]? = some o) (hg : o.guard = some (j, want)) (hd : o.dst = some d) (hj : (ops[j]?).bind (·.dst) = some dj) (hb : look E dj = some (.bool want)) (h : Val P N z E Mro o v) (k : TA P N z ops Q Mro fuel (ls n m') ((d, v) :: E) M)
    (hN : d < N := by exact Nat.le_of_ble_eq_true rfl) (hM : dj < N := by exact Nat.le_of_ble_eq_true rfl) (hs : Region.noSelect ops = true := by kernel_rfl) (hf : Region.free .any ops (ls n m) i = true := by kernel_rfl) (hr : (Region.ready .any ops (ls n m)).contains i = true := by kernel_rfl)
    (hl : (ls n m).setIfInBounds i true = ls n m' := by kernel_rfl) (hro : ∀ w, Own z w M → Own z w Mro := by repeat (first | exact Go.X.ro_refl | exact Go.X.ro_pre | refine Go.X.ro_tail ?_ | refine Go.X.ro_app ?_)) : TA P N z ops Q Mro (fuel + 1) (ls n m) E M :=
  TA.takeYes i hi hg hd hN hj hM hb hs hf hr hl hro h k
theorem TA.tkP (i m' : Nat) {o : Oper} {d j dj : Nat} {want b : Bool} (hi : ops[i]? = some o) (hg : o.guard = some (j, want)) (hd : o.dst = some d) (hj : (ops[j]?).bind (·.dst) = some dj) (hb : look E dj = some (.bool b)) (hne : (b == want) = false) (k : TA P N z ops Q Mro fuel (ls n m') ((d, undef) :: E) M)
    (hN : d < N := by exact Nat.le_of_ble_eq_true rfl) (hM : dj < N := by exact Nat.le_of_ble_eq_true rfl) (hs : Region.noSelect ops = true := by kernel_rfl) (hf : Region.free .any ops (ls n m) i = true := by kernel_rfl) (hr : (Region.ready .any ops (ls n m)).contains i = true := by kernel_rfl)
    (hl : (ls n m).setIfInBounds i true = ls n m' := by kernel_rfl) (hro : ∀ w, Own z w M → Own z w Mro := by repeat (first | exact Go.X.ro_refl | exact Go.X.ro_pre | refine Go.X.ro_tail ?_ | refine Go.X.ro_app ?_)) : TA P N z ops Q Mro (fuel + 1) (ls n m) E M :=
  TA.takePass i hi hg hd hN hj hM hb hne hs hf hr hl hro k
theorem TA.tkU (i m' : Nat) {o : Oper} {d j dj : Nat} {want : Bool} (hi : ops[i]? = some o) (hg : o.guard = some (j, want)) (hd : o.dst = some d) (hj : (ops[j]?).bind (·.dst) = some dj) (hb : look E dj = some undef) (k : TA P N z ops Q Mro fuel (ls n m') ((d, undef) :: E) M)
    (hN : d < N := by exact Nat.le_of_ble_eq_true rfl) (hM : dj < N := by exact Nat.le_of_ble_eq_true rfl) (hs : Region.noSelect ops = true := by kernel_rfl) (hf : Region.free .any ops (ls n m) i = true := by kernel_rfl) (hr : (Region.ready .any ops (ls n m)).contains i = true := by kernel_rfl)
    (hl : (ls n m).setIfInBounds i true = ls n m' := by kernel_rfl) (hro : ∀ w, Own z w M → Own z w Mro := by repeat (first | exact Go.X.ro_refl | exact Go.X.ro_pre | refine Go.X.ro_tail ?_ | refine Go.X.ro_app ?_)) : TA P N z ops Q Mro (fuel + 1) (ls n m) E M :=
  TA.takePassU i hi hg hd hN hj hM hb hs hf hr hl hro k
theorem TO.dz {i : Nat} (m' : Nat) {o : Oper} {R : Value → Hp → Prop} (d : Option Nat) (hi : ops[i]? = some o) (hd : o.dst = d) (hg : o.guard = none) (hN : ltN d N = true) (h : Does P N z E M o R)
    (k : ∀ v M', R v M' → (∀ w, Own z w M' → Own z w Mro) ∧ TA P N z ops Q Mro fuel (ls n m') (putE d v E) M') (hl : (ls n m).setIfInBounds i true = ls n m' := by kernel_rfl) : TO P N z ops Q Mro fuel (ls n m) i E M := TO.does d hi hd hg hN hl h k
theorem TO.dzY {i : Nat} (m' : Nat) {j dj : Nat} {want : Bool} {o : Oper} {R : Value → Hp → Prop} (d : Option Nat) (hi : ops[i]? = some o) (hd : o.dst = d) (hg : o.guard = some (j, want)) (hj : (ops[j]?).bind (·.dst) = some dj) (hb : look E dj = some (.bool want)) (hN : ltN d N = true) (h : Does P N z E M o R)
    (k : ∀ v M', R v M' → (∀ w, Own z w M' → Own z w Mro) ∧ TA P N z ops Q Mro fuel (ls n m') (putE d v E) M') (hM : dj < N := by exact Nat.le_of_ble_eq_true rfl) (hl : (ls n m).setIfInBounds i true = ls n m' := by kernel_rfl) : TO P N z ops Q Mro fuel (ls n m) i E M := TO.doesYes d hi hd hg hj hM hb hN hl h k
theorem TO.ps {i : Nat} (m' : Nat) {j dj : Nat} {want b : Bool} {o : Oper} (d : Option Nat) (hi : ops[i]? = some o) (hd : o.dst = d) (hg : o.guard = some (j, want)) (hj : (ops[j]?).bind (·.dst) = some dj) (hb : look E dj = some (.bool b)) (hne : (b == want) = false) (hN : ltN d N = true) (k : TA P N z ops Q Mro fuel (ls n m') (putE d undef E) M)
    (hM : dj < N := by exact Nat.le_of_ble_eq_true rfl) (hl : (ls n m).setIfInBounds i true = ls n m' := by kernel_rfl) (hro : ∀ w, Own z w M → Own z w Mro := by repeat (first | exact Go.X.ro_refl | exact Go.X.ro_pre | refine Go.X.ro_tail ?_ | refine Go.X.ro_app ?_)) : TO P N z ops Q Mro fuel (ls n m) i E M := TO.pass d hi hd hg hj hM hb hne hN hl hro k
theorem roK {A : Prop} (h : A) (hro : ∀ w, Own z w M → Own z w Mro := by repeat (first | exact Go.X.ro_refl | exact Go.X.ro_pre | refine Go.X.ro_tail ?_ | refine Go.X.ro_app ?_)) : (∀ w, Own z w M → Own z w Mro) ∧ A := ⟨hro, h⟩
end
end Go.X
