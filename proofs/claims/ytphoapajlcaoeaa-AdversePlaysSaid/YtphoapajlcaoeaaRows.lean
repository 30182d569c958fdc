/-
  No cell of these rows narrows 'for every input' (looked for: loops, veiled, ifaces, maps, wideKeys, modest, calm, conditions, laid).
  DERIVED. THE GIVEN ROWS OF THIS SEAT. 8 by the template 'for every input the law returns true; each argument reads behind the call as it read before'; 0 by the template 'total and deterministic' (their statements: YtphoapajlcaoeaaTotals.lean).
  GIVEN WITH THE SEED: the statements are not yours to turn. If you find one false, say at which input.
  Laid BY PROGRAM, IN A SANDBOX (cutbox-rows.mjs): the forced cells as the released guide's own fill.sh prints them over the translation f40c107e600d6fa0… (all of the seat's roots in one cut). By AI agents, Wed Nov 11 2026. No macro, syntax, notation, axiom, sorry.
-/
import Derived.Test.YtphoapajlcaoeaaChecked
import GoSem.Claim
import GoSem.ClaimJoined
import GoSem.ClaimMapViews
import Derived.JoinedTies
import Derived.KernelRfl
namespace Go.Proofs.Ytphoapajlcaoeaa
/- THE CELL 'sum', in the pinned program and in every row, IS THE sha256 OF THE DUMP (.gsa) THAT YtphoapajlcaoeaaProg.lean LOADS. Nothing in Lean hashes anything: it is a label: what it is worth is what the hold of that sum in a sandbox is worth. -/
noncomputable def Try.pinned : Pinned := { name := "ytphoapajlcaoeaa", sum := "f40c107e600d6fa00555b2cb3059dd5e822e55b65a17b97d672bd2912c635d40", checked := Try.checked }
namespace Rows
def none {H : Type} : Left H := { results := [], args := [] }

/-- 'quorumitelaw23.AdverseFew': WHATEVER THE INPUT: true; the input reads as it did. -/
def adverseFewSpec : ChangeSpec := { name := "adverseFew", fn := fun _ => fun
  | [d1, d2] => { results := [.lit (.bool true)], args := [d1, d2] }
  | _ => none }
def adverseFewRow : OpenClaim := { program := "ytphoapajlcaoeaa", sum := "f40c107e600d6fa00555b2cb3059dd5e822e55b65a17b97d672bd2912c635d40", func := "quorumite/quorumitelaw23.AdverseFew", spec := "adverseFew", inPlace := ["sync/atomic.LoadInt64", "sync/atomic.AddInt64"], unfollowed := true, recurses := true, apart := false }
def AdverseFewSaid : Prop := adverseFewRow.holds Try.pinned (OpenSpec.ofChange adverseFewSpec)

/-- ITS FALSE NEIGHBOUR: 'it returns false'. Refute it at one input. -/
def adverseFewWrong : ChangeSpec := { name := "adverseFew", fn := fun _ => fun
  | [d1, d2] => { results := [.lit (.bool false)], args := [d1, d2] }
  | _ => none }
def AdverseFewWrongFalsely : Prop := adverseFewRow.holds Try.pinned (OpenSpec.ofChange adverseFewWrong)

/-- 'quorumitelaw23.AdverseHonest': WHATEVER THE INPUT: true; the input reads as it did. -/
def adverseHonestSpec : ChangeSpec := { name := "adverseHonest", fn := fun _ => fun
  | [d1, d2, d3] => { results := [.lit (.bool true)], args := [d1, d2, d3] }
  | _ => none }
def adverseHonestRow : OpenClaim := { program := "ytphoapajlcaoeaa", sum := "f40c107e600d6fa00555b2cb3059dd5e822e55b65a17b97d672bd2912c635d40", func := "quorumite/quorumitelaw23.AdverseHonest", spec := "adverseHonest", inPlace := ["sync/atomic.LoadInt64", "sync/atomic.AddInt64"], unfollowed := true, recurses := true, apart := false }
def AdverseHonestSaid : Prop := adverseHonestRow.holds Try.pinned (OpenSpec.ofChange adverseHonestSpec)

/-- ITS FALSE NEIGHBOUR: 'it returns false'. Refute it at one input. -/
def adverseHonestWrong : ChangeSpec := { name := "adverseHonest", fn := fun _ => fun
  | [d1, d2, d3] => { results := [.lit (.bool false)], args := [d1, d2, d3] }
  | _ => none }
def AdverseHonestWrongFalsely : Prop := adverseHonestRow.holds Try.pinned (OpenSpec.ofChange adverseHonestWrong)

/-- 'quorumitelaw23.AdversePlays': WHATEVER THE INPUT: true; the input reads as it did. -/
def adversePlaysSpec : ChangeSpec := { name := "adversePlays", fn := fun _ => fun
  | [d1, d2] => { results := [.lit (.bool true)], args := [d1, d2] }
  | _ => none }
def adversePlaysRow : OpenClaim := { program := "ytphoapajlcaoeaa", sum := "f40c107e600d6fa00555b2cb3059dd5e822e55b65a17b97d672bd2912c635d40", func := "quorumite/quorumitelaw23.AdversePlays", spec := "adversePlays", inPlace := ["sync/atomic.LoadInt64", "sync/atomic.AddInt64", "sync/atomic.StoreInt64"], unfollowed := true, recurses := true, apart := false }
def AdversePlaysSaid : Prop := adversePlaysRow.holds Try.pinned (OpenSpec.ofChange adversePlaysSpec)

/-- ITS FALSE NEIGHBOUR: 'it returns false'. Refute it at one input. -/
def adversePlaysWrong : ChangeSpec := { name := "adversePlays", fn := fun _ => fun
  | [d1, d2] => { results := [.lit (.bool false)], args := [d1, d2] }
  | _ => none }
def AdversePlaysWrongFalsely : Prop := adversePlaysRow.holds Try.pinned (OpenSpec.ofChange adversePlaysWrong)

/-- 'quorumitelaw8.VerifyOnce': WHATEVER THE INPUT: true; the input reads as it did. -/
def verifyOnceSpec : ChangeSpec := { name := "verifyOnce", fn := fun _ => fun
  | [d1, d2, d3, d4] => { results := [.lit (.bool true)], args := [d1, d2, d3, d4] }
  | _ => none }
def verifyOnceRow : OpenClaim := { program := "ytphoapajlcaoeaa", sum := "f40c107e600d6fa00555b2cb3059dd5e822e55b65a17b97d672bd2912c635d40", func := "quorumite/quorumitelaw8.VerifyOnce", spec := "verifyOnce", inPlace := ["sync/atomic.LoadInt64", "sync/atomic.AddInt64", "sync/atomic.StoreInt64"], unfollowed := true, recurses := true, apart := false }
def VerifyOnceSaid : Prop := verifyOnceRow.holds Try.pinned (OpenSpec.ofChange verifyOnceSpec)

/-- ITS FALSE NEIGHBOUR: 'it returns false'. Refute it at one input. -/
def verifyOnceWrong : ChangeSpec := { name := "verifyOnce", fn := fun _ => fun
  | [d1, d2, d3, d4] => { results := [.lit (.bool false)], args := [d1, d2, d3, d4] }
  | _ => none }
def VerifyOnceWrongFalsely : Prop := verifyOnceRow.holds Try.pinned (OpenSpec.ofChange verifyOnceWrong)

/-- 'quorumitelaw8.VerifyKeys': WHATEVER THE INPUT: true; the input reads as it did. -/
def verifyKeysSpec : ChangeSpec := { name := "verifyKeys", fn := fun _ => fun
  | [d1, d2, d3, d4, d5, d6] => { results := [.lit (.bool true)], args := [d1, d2, d3, d4, d5, d6] }
  | _ => none }
def verifyKeysRow : OpenClaim := { program := "ytphoapajlcaoeaa", sum := "f40c107e600d6fa00555b2cb3059dd5e822e55b65a17b97d672bd2912c635d40", func := "quorumite/quorumitelaw8.VerifyKeys", spec := "verifyKeys", inPlace := ["sync/atomic.AddInt64", "sync/atomic.LoadInt64", "sync/atomic.StoreInt64"], unfollowed := true, recurses := true, apart := false }
def VerifyKeysSaid : Prop := verifyKeysRow.holds Try.pinned (OpenSpec.ofChange verifyKeysSpec)

/-- ITS FALSE NEIGHBOUR: 'it returns false'. Refute it at one input. -/
def verifyKeysWrong : ChangeSpec := { name := "verifyKeys", fn := fun _ => fun
  | [d1, d2, d3, d4, d5, d6] => { results := [.lit (.bool false)], args := [d1, d2, d3, d4, d5, d6] }
  | _ => none }
def VerifyKeysWrongFalsely : Prop := verifyKeysRow.holds Try.pinned (OpenSpec.ofChange verifyKeysWrong)

/-- 'quorumitelaw8.VerifyFresh': WHATEVER THE INPUT: true; the input reads as it did. -/
def verifyFreshSpec : ChangeSpec := { name := "verifyFresh", fn := fun _ => fun
  | [d1, d2, d3] => { results := [.lit (.bool true)], args := [d1, d2, d3] }
  | _ => none }
def verifyFreshRow : OpenClaim := { program := "ytphoapajlcaoeaa", sum := "f40c107e600d6fa00555b2cb3059dd5e822e55b65a17b97d672bd2912c635d40", func := "quorumite/quorumitelaw8.VerifyFresh", spec := "verifyFresh", inPlace := ["sync/atomic.LoadInt64", "sync/atomic.AddInt64", "sync/atomic.StoreInt64"], unfollowed := true, recurses := true, apart := false }
def VerifyFreshSaid : Prop := verifyFreshRow.holds Try.pinned (OpenSpec.ofChange verifyFreshSpec)

/-- ITS FALSE NEIGHBOUR: 'it returns false'. Refute it at one input. -/
def verifyFreshWrong : ChangeSpec := { name := "verifyFresh", fn := fun _ => fun
  | [d1, d2, d3] => { results := [.lit (.bool false)], args := [d1, d2, d3] }
  | _ => none }
def VerifyFreshWrongFalsely : Prop := verifyFreshRow.holds Try.pinned (OpenSpec.ofChange verifyFreshWrong)

/-- 'quorumitelaw8.VerifyOut': WHATEVER THE INPUT: true; the input reads as it did. -/
def verifyOutSpec : ChangeSpec := { name := "verifyOut", fn := fun _ => fun
  | [d1, d2] => { results := [.lit (.bool true)], args := [d1, d2] }
  | _ => none }
def verifyOutRow : OpenClaim := { program := "ytphoapajlcaoeaa", sum := "f40c107e600d6fa00555b2cb3059dd5e822e55b65a17b97d672bd2912c635d40", func := "quorumite/quorumitelaw8.VerifyOut", spec := "verifyOut", inPlace := ["sync/atomic.LoadInt64", "sync/atomic.AddInt64", "sync/atomic.StoreInt64"], unfollowed := true, recurses := true, apart := false }
def VerifyOutSaid : Prop := verifyOutRow.holds Try.pinned (OpenSpec.ofChange verifyOutSpec)

/-- ITS FALSE NEIGHBOUR: 'it returns false'. Refute it at one input. -/
def verifyOutWrong : ChangeSpec := { name := "verifyOut", fn := fun _ => fun
  | [d1, d2] => { results := [.lit (.bool false)], args := [d1, d2] }
  | _ => none }
def VerifyOutWrongFalsely : Prop := verifyOutRow.holds Try.pinned (OpenSpec.ofChange verifyOutWrong)

/-- 'quorumitelaw23.AdverseOwn': WHATEVER THE INPUT: true; the input reads as it did. -/
def adverseOwnSpec : ChangeSpec := { name := "adverseOwn", fn := fun _ => fun
  | [d1, d2, d3] => { results := [.lit (.bool true)], args := [d1, d2, d3] }
  | _ => none }
def adverseOwnRow : OpenClaim := { program := "ytphoapajlcaoeaa", sum := "f40c107e600d6fa00555b2cb3059dd5e822e55b65a17b97d672bd2912c635d40", func := "quorumite/quorumitelaw23.AdverseOwn", spec := "adverseOwn", inPlace := ["sync/atomic.LoadInt64", "sync/atomic.AddInt64"], unfollowed := true, recurses := true, apart := false }
def AdverseOwnSaid : Prop := adverseOwnRow.holds Try.pinned (OpenSpec.ofChange adverseOwnSpec)

/-- ITS FALSE NEIGHBOUR: 'it returns false'. Refute it at one input. -/
def adverseOwnWrong : ChangeSpec := { name := "adverseOwn", fn := fun _ => fun
  | [d1, d2, d3] => { results := [.lit (.bool false)], args := [d1, d2, d3] }
  | _ => none }
def AdverseOwnWrongFalsely : Prop := adverseOwnRow.holds Try.pinned (OpenSpec.ofChange adverseOwnWrong)

/- THE SECOND FORM. 'bulk': how many values and letters a reading holds, each counted each time it is reached (what is shared counts as often as it is met; a slice's spare places count too). A statement '..UptoSaid' is the law's where the arguments, and the package variables that the reading takes, are together of bulk at most 1048576: NARROWER than '..Said'. Prove '..Said' where nothing that the law and all that it calls make is longer than what came in: it says more and counts as full. Else prove '..UptoSaid'. A law counts once. -/
mutual
def uptoBulk {H : Type} : DataW H → Nat
  | .lit (.string bytes) => bytes.length + 1
  | .lit _ => 1
  | .nil => 1
  | .ptr d => uptoBulk d + 1
  | .slice elems spare => uptoBulkAll elems + uptoBulkAll spare + 1
  | .agg parts => uptoBulkAll parts + 1
  | .iface _ d => uptoBulk d + 1
  | .map entries => uptoBulkEntries entries + 1
  | .held _ => 1
def uptoBulkAll {H : Type} : List (DataW H) → Nat
  | [] => 0
  | d :: r => uptoBulk d + uptoBulkAll r
def uptoBulkEntries {H : Type} : List (Lit × DataW H) → Nat
  | [] => 0
  | x :: r => uptoBulkEntry x + uptoBulkEntries r
def uptoBulkEntry {H : Type} : Lit × DataW H → Nat
  | (.string bytes, d) => bytes.length + uptoBulk d + 1
  | (_, d) => uptoBulk d + 1
 end
def uptoSmall : (H : Type) → List (DataW H) → Bool := fun _ ds => decide (uptoBulkAll ds ≤ 1048576)
def OpenSpec.upto (s : _root_.Go.ChangeSpec) : _root_.Go.OpenSpec := { _root_.Go.OpenSpec.ofChange s with cond := some uptoSmall }

/-- 'quorumitelaw23.AdverseFew', WHERE WHAT IT READS IS OF BULK AT MOST 1048576: true; the input reads as it did. -/
def adverseFewUptoRow : OpenClaim := { program := "ytphoapajlcaoeaa", sum := "f40c107e600d6fa00555b2cb3059dd5e822e55b65a17b97d672bd2912c635d40", func := "quorumite/quorumitelaw23.AdverseFew", spec := "adverseFew", inPlace := ["sync/atomic.LoadInt64", "sync/atomic.AddInt64"], unfollowed := true, recurses := true, apart := false, narrowed := true }
def AdverseFewUptoSaid : Prop := adverseFewUptoRow.holds Try.pinned (OpenSpec.upto adverseFewSpec)

/-- 'quorumitelaw23.AdverseHonest', WHERE WHAT IT READS IS OF BULK AT MOST 1048576: true; the input reads as it did. -/
def adverseHonestUptoRow : OpenClaim := { program := "ytphoapajlcaoeaa", sum := "f40c107e600d6fa00555b2cb3059dd5e822e55b65a17b97d672bd2912c635d40", func := "quorumite/quorumitelaw23.AdverseHonest", spec := "adverseHonest", inPlace := ["sync/atomic.LoadInt64", "sync/atomic.AddInt64"], unfollowed := true, recurses := true, apart := false, narrowed := true }
def AdverseHonestUptoSaid : Prop := adverseHonestUptoRow.holds Try.pinned (OpenSpec.upto adverseHonestSpec)

/-- 'quorumitelaw23.AdversePlays', WHERE WHAT IT READS IS OF BULK AT MOST 1048576: true; the input reads as it did. -/
def adversePlaysUptoRow : OpenClaim := { program := "ytphoapajlcaoeaa", sum := "f40c107e600d6fa00555b2cb3059dd5e822e55b65a17b97d672bd2912c635d40", func := "quorumite/quorumitelaw23.AdversePlays", spec := "adversePlays", inPlace := ["sync/atomic.LoadInt64", "sync/atomic.AddInt64", "sync/atomic.StoreInt64"], unfollowed := true, recurses := true, apart := false, narrowed := true }
def AdversePlaysUptoSaid : Prop := adversePlaysUptoRow.holds Try.pinned (OpenSpec.upto adversePlaysSpec)

/-- 'quorumitelaw8.VerifyOnce', WHERE WHAT IT READS IS OF BULK AT MOST 1048576: true; the input reads as it did. -/
def verifyOnceUptoRow : OpenClaim := { program := "ytphoapajlcaoeaa", sum := "f40c107e600d6fa00555b2cb3059dd5e822e55b65a17b97d672bd2912c635d40", func := "quorumite/quorumitelaw8.VerifyOnce", spec := "verifyOnce", inPlace := ["sync/atomic.LoadInt64", "sync/atomic.AddInt64", "sync/atomic.StoreInt64"], unfollowed := true, recurses := true, apart := false, narrowed := true }
def VerifyOnceUptoSaid : Prop := verifyOnceUptoRow.holds Try.pinned (OpenSpec.upto verifyOnceSpec)

/-- 'quorumitelaw8.VerifyKeys', WHERE WHAT IT READS IS OF BULK AT MOST 1048576: true; the input reads as it did. -/
def verifyKeysUptoRow : OpenClaim := { program := "ytphoapajlcaoeaa", sum := "f40c107e600d6fa00555b2cb3059dd5e822e55b65a17b97d672bd2912c635d40", func := "quorumite/quorumitelaw8.VerifyKeys", spec := "verifyKeys", inPlace := ["sync/atomic.AddInt64", "sync/atomic.LoadInt64", "sync/atomic.StoreInt64"], unfollowed := true, recurses := true, apart := false, narrowed := true }
def VerifyKeysUptoSaid : Prop := verifyKeysUptoRow.holds Try.pinned (OpenSpec.upto verifyKeysSpec)

/-- 'quorumitelaw8.VerifyFresh', WHERE WHAT IT READS IS OF BULK AT MOST 1048576: true; the input reads as it did. -/
def verifyFreshUptoRow : OpenClaim := { program := "ytphoapajlcaoeaa", sum := "f40c107e600d6fa00555b2cb3059dd5e822e55b65a17b97d672bd2912c635d40", func := "quorumite/quorumitelaw8.VerifyFresh", spec := "verifyFresh", inPlace := ["sync/atomic.LoadInt64", "sync/atomic.AddInt64", "sync/atomic.StoreInt64"], unfollowed := true, recurses := true, apart := false, narrowed := true }
def VerifyFreshUptoSaid : Prop := verifyFreshUptoRow.holds Try.pinned (OpenSpec.upto verifyFreshSpec)

/-- 'quorumitelaw8.VerifyOut', WHERE WHAT IT READS IS OF BULK AT MOST 1048576: true; the input reads as it did. -/
def verifyOutUptoRow : OpenClaim := { program := "ytphoapajlcaoeaa", sum := "f40c107e600d6fa00555b2cb3059dd5e822e55b65a17b97d672bd2912c635d40", func := "quorumite/quorumitelaw8.VerifyOut", spec := "verifyOut", inPlace := ["sync/atomic.LoadInt64", "sync/atomic.AddInt64", "sync/atomic.StoreInt64"], unfollowed := true, recurses := true, apart := false, narrowed := true }
def VerifyOutUptoSaid : Prop := verifyOutUptoRow.holds Try.pinned (OpenSpec.upto verifyOutSpec)

/-- 'quorumitelaw23.AdverseOwn', WHERE WHAT IT READS IS OF BULK AT MOST 1048576: true; the input reads as it did. -/
def adverseOwnUptoRow : OpenClaim := { program := "ytphoapajlcaoeaa", sum := "f40c107e600d6fa00555b2cb3059dd5e822e55b65a17b97d672bd2912c635d40", func := "quorumite/quorumitelaw23.AdverseOwn", spec := "adverseOwn", inPlace := ["sync/atomic.LoadInt64", "sync/atomic.AddInt64"], unfollowed := true, recurses := true, apart := false, narrowed := true }
def AdverseOwnUptoSaid : Prop := adverseOwnUptoRow.holds Try.pinned (OpenSpec.upto adverseOwnSpec)

end Rows
end Go.Proofs.Ytphoapajlcaoeaa
