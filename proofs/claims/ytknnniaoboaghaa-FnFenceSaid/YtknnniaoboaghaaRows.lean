/-
  No cell of these rows narrows 'for every input' (looked for: loops, veiled, ifaces, maps, wideKeys, modest, calm, conditions, laid).
  DERIVED. THE GIVEN ROWS OF THIS SEAT. 6 by the template 'for every input the law returns true; each argument reads behind the call as it read before'; 0 by the template 'total and deterministic' (their statements: YtknnniaoboaghaaTotals.lean).
  GIVEN WITH THE SEED: the statements are not yours to turn. If you find one false, say at which input.
  Laid BY PROGRAM, IN A SANDBOX (cutbox-rows.mjs): the forced cells as the released guide's own fill.sh prints them over the translation 757e79d41938c86e… (all of the seat's roots in one cut). By AI agents, Wed Nov 11 2026. No macro, syntax, notation, axiom, sorry.
-/
import Derived.Test.YtknnniaoboaghaaChecked
import GoSem.Claim
import GoSem.ClaimJoined
import GoSem.ClaimMapViews
import Derived.JoinedTies
import Derived.KernelRfl
namespace Go.Proofs.Ytknnniaoboaghaa
/- THE CELL 'sum', in the pinned program and in every row, IS THE sha256 OF THE DUMP (.gsa) THAT YtknnniaoboaghaaProg.lean LOADS. Nothing in Lean hashes anything: it is a label: what it is worth is what the hold of that sum in a sandbox is worth. -/
noncomputable def Try.pinned : Pinned := { name := "ytknnniaoboaghaa", sum := "757e79d41938c86e4c360e70c9feb5f36afcd040aae3383090b69e8f3cde70eb", checked := Try.checked }
namespace Rows
def none {H : Type} : Left H := { results := [], args := [] }

/-- 'laws.FnExactLockAt': WHATEVER THE INPUT: true; the input reads as it did. -/
def fnExactLockAtSpec : ChangeSpec := { name := "fnExactLockAt", fn := fun _ => fun
  | [d1, d2] => { results := [.lit (.bool true)], args := [d1, d2] }
  | _ => none }
def fnExactLockAtRow : OpenClaim := { program := "ytknnniaoboaghaa", sum := "757e79d41938c86e4c360e70c9feb5f36afcd040aae3383090b69e8f3cde70eb", func := "loop.example/g00292/laws.FnExactLockAt", spec := "fnExactLockAt", inPlace := ["internal/bytealg.abigen_runtime_cmpstring"], unfollowed := true, recurses := true, apart := false }
def FnExactLockAtSaid : Prop := fnExactLockAtRow.holds Try.pinned (OpenSpec.ofChange fnExactLockAtSpec)

/-- ITS FALSE NEIGHBOUR: 'it returns false'. Refute it at one input. -/
def fnExactLockAtWrong : ChangeSpec := { name := "fnExactLockAt", fn := fun _ => fun
  | [d1, d2] => { results := [.lit (.bool false)], args := [d1, d2] }
  | _ => none }
def FnExactLockAtWrongFalsely : Prop := fnExactLockAtRow.holds Try.pinned (OpenSpec.ofChange fnExactLockAtWrong)

/-- 'laws.FnExactExpireLocks': WHATEVER THE INPUT: true; the input reads as it did. -/
def fnExactExpireLocksSpec : ChangeSpec := { name := "fnExactExpireLocks", fn := fun _ => fun
  | [d1, d2] => { results := [.lit (.bool true)], args := [d1, d2] }
  | _ => none }
def fnExactExpireLocksRow : OpenClaim := { program := "ytknnniaoboaghaa", sum := "757e79d41938c86e4c360e70c9feb5f36afcd040aae3383090b69e8f3cde70eb", func := "loop.example/g00292/laws.FnExactExpireLocks", spec := "fnExactExpireLocks", unfollowed := true, recurses := true, apart := false }
def FnExactExpireLocksSaid : Prop := fnExactExpireLocksRow.holds Try.pinned (OpenSpec.ofChange fnExactExpireLocksSpec)

/-- ITS FALSE NEIGHBOUR: 'it returns false'. Refute it at one input. -/
def fnExactExpireLocksWrong : ChangeSpec := { name := "fnExactExpireLocks", fn := fun _ => fun
  | [d1, d2] => { results := [.lit (.bool false)], args := [d1, d2] }
  | _ => none }
def FnExactExpireLocksWrongFalsely : Prop := fnExactExpireLocksRow.holds Try.pinned (OpenSpec.ofChange fnExactExpireLocksWrong)

/-- 'laws.FnFence': WHATEVER THE INPUT: true; the input reads as it did. -/
def fnFenceSpec : ChangeSpec := { name := "fnFence", fn := fun _ => fun
  | [d] => { results := [.lit (.bool true)], args := [d] }
  | _ => none }
def fnFenceRow : OpenClaim := { program := "ytknnniaoboaghaa", sum := "757e79d41938c86e4c360e70c9feb5f36afcd040aae3383090b69e8f3cde70eb", func := "loop.example/g00292/laws.FnFence", spec := "fnFence", inPlace := ["internal/bytealg.abigen_runtime_cmpstring", "slices.overlaps[loop.example/g00292/impl.Lock]", "slices.overlaps[loop.example/g00292/impl.Seen]"], unfollowed := true, recurses := true, apart := false }
def FnFenceSaid : Prop := fnFenceRow.holds Try.pinned (OpenSpec.ofChange fnFenceSpec)

/-- ITS FALSE NEIGHBOUR: 'it returns false'. Refute it at one input. -/
def fnFenceWrong : ChangeSpec := { name := "fnFence", fn := fun _ => fun
  | [d] => { results := [.lit (.bool false)], args := [d] }
  | _ => none }
def FnFenceWrongFalsely : Prop := fnFenceRow.holds Try.pinned (OpenSpec.ofChange fnFenceWrong)

/-- 'laws.FnOnce': WHATEVER THE INPUT: true; the input reads as it did. -/
def fnOnceSpec : ChangeSpec := { name := "fnOnce", fn := fun _ => fun
  | [d1, d2] => { results := [.lit (.bool true)], args := [d1, d2] }
  | _ => none }
def fnOnceRow : OpenClaim := { program := "ytknnniaoboaghaa", sum := "757e79d41938c86e4c360e70c9feb5f36afcd040aae3383090b69e8f3cde70eb", func := "loop.example/g00292/laws.FnOnce", spec := "fnOnce", inPlace := ["internal/bytealg.abigen_runtime_cmpstring", "slices.overlaps[loop.example/g00292/impl.Lock]", "slices.overlaps[loop.example/g00292/impl.Seen]"], unfollowed := true, recurses := true, apart := false }
def FnOnceSaid : Prop := fnOnceRow.holds Try.pinned (OpenSpec.ofChange fnOnceSpec)

/-- ITS FALSE NEIGHBOUR: 'it returns false'. Refute it at one input. -/
def fnOnceWrong : ChangeSpec := { name := "fnOnce", fn := fun _ => fun
  | [d1, d2] => { results := [.lit (.bool false)], args := [d1, d2] }
  | _ => none }
def FnOnceWrongFalsely : Prop := fnOnceRow.holds Try.pinned (OpenSpec.ofChange fnOnceWrong)

/-- 'laws.FnLocks': WHATEVER THE INPUT: true; the input reads as it did. -/
def fnLocksSpec : ChangeSpec := { name := "fnLocks", fn := fun _ => fun
  | [d] => { results := [.lit (.bool true)], args := [d] }
  | _ => none }
def fnLocksRow : OpenClaim := { program := "ytknnniaoboaghaa", sum := "757e79d41938c86e4c360e70c9feb5f36afcd040aae3383090b69e8f3cde70eb", func := "loop.example/g00292/laws.FnLocks", spec := "fnLocks", inPlace := ["internal/bytealg.abigen_runtime_cmpstring", "slices.overlaps[loop.example/g00292/impl.Lock]", "slices.overlaps[loop.example/g00292/impl.Seen]"], unfollowed := true, recurses := true, apart := false }
def FnLocksSaid : Prop := fnLocksRow.holds Try.pinned (OpenSpec.ofChange fnLocksSpec)

/-- ITS FALSE NEIGHBOUR: 'it returns false'. Refute it at one input. -/
def fnLocksWrong : ChangeSpec := { name := "fnLocks", fn := fun _ => fun
  | [d] => { results := [.lit (.bool false)], args := [d] }
  | _ => none }
def FnLocksWrongFalsely : Prop := fnLocksRow.holds Try.pinned (OpenSpec.ofChange fnLocksWrong)

/-- 'laws.FnExactApplyRequest': WHATEVER THE INPUT: true; the input reads as it did. -/
def fnExactApplyRequestSpec : ChangeSpec := { name := "fnExactApplyRequest", fn := fun _ => fun
  | [d1, d2, d3] => { results := [.lit (.bool true)], args := [d1, d2, d3] }
  | _ => none }
def fnExactApplyRequestRow : OpenClaim := { program := "ytknnniaoboaghaa", sum := "757e79d41938c86e4c360e70c9feb5f36afcd040aae3383090b69e8f3cde70eb", func := "loop.example/g00292/laws.FnExactApplyRequest", spec := "fnExactApplyRequest", inPlace := ["internal/bytealg.abigen_runtime_cmpstring", "slices.overlaps[loop.example/g00292/impl.Lock]", "slices.overlaps[loop.example/g00292/impl.Seen]"], unfollowed := true, recurses := true, apart := false }
def FnExactApplyRequestSaid : Prop := fnExactApplyRequestRow.holds Try.pinned (OpenSpec.ofChange fnExactApplyRequestSpec)

/-- ITS FALSE NEIGHBOUR: 'it returns false'. Refute it at one input. -/
def fnExactApplyRequestWrong : ChangeSpec := { name := "fnExactApplyRequest", fn := fun _ => fun
  | [d1, d2, d3] => { results := [.lit (.bool false)], args := [d1, d2, d3] }
  | _ => none }
def FnExactApplyRequestWrongFalsely : Prop := fnExactApplyRequestRow.holds Try.pinned (OpenSpec.ofChange fnExactApplyRequestWrong)

/- THE SECOND FORM. 'bulk': how many values and letters a reading holds, each counted each time it is reached (what is shared counts as often as it is met; a slice's spare places count too). A statement '..UptoSaid' is the law's where the arguments, and the package variables that the reading takes, are together of bulk at most 1048576: NARROWER than '..Said'. Prove '..Said' where nothing that the law and all that it calls make is longer than what came in: it says more and counts as full. Else prove '..UptoSaid'. A law counts once. -/
mutual
def uptoBulk {H : Type} : DataW H → Nat
  | .lit (.string bytes) => bytes.length + 1
  | .lit _ => 1
  | .nil => 1
  | .ptr d => uptoBulk d + 1
  | .slice elems spare => uptoBulkAll elems + uptoBulkAll spare + 1
  | .agg parts => uptoBulkAll parts + 1
  | .iface _ d => uptoBulk d + 1
  | .map entries => uptoBulkEntries entries + 1
  | .held _ => 1
def uptoBulkAll {H : Type} : List (DataW H) → Nat
  | [] => 0
  | d :: r => uptoBulk d + uptoBulkAll r
def uptoBulkEntries {H : Type} : List (Lit × DataW H) → Nat
  | [] => 0
  | x :: r => uptoBulkEntry x + uptoBulkEntries r
def uptoBulkEntry {H : Type} : Lit × DataW H → Nat
  | (.string bytes, d) => bytes.length + uptoBulk d + 1
  | (_, d) => uptoBulk d + 1
 end
def uptoSmall : (H : Type) → List (DataW H) → Bool := fun _ ds => decide (uptoBulkAll ds ≤ 1048576)
def OpenSpec.upto (s : _root_.Go.ChangeSpec) : _root_.Go.OpenSpec := { _root_.Go.OpenSpec.ofChange s with cond := some uptoSmall }

/-- 'laws.FnExactLockAt', WHERE WHAT IT READS IS OF BULK AT MOST 1048576: true; the input reads as it did. -/
def fnExactLockAtUptoRow : OpenClaim := { program := "ytknnniaoboaghaa", sum := "757e79d41938c86e4c360e70c9feb5f36afcd040aae3383090b69e8f3cde70eb", func := "loop.example/g00292/laws.FnExactLockAt", spec := "fnExactLockAt", inPlace := ["internal/bytealg.abigen_runtime_cmpstring"], unfollowed := true, recurses := true, apart := false, narrowed := true }
def FnExactLockAtUptoSaid : Prop := fnExactLockAtUptoRow.holds Try.pinned (OpenSpec.upto fnExactLockAtSpec)

/-- 'laws.FnExactExpireLocks', WHERE WHAT IT READS IS OF BULK AT MOST 1048576: true; the input reads as it did. -/
def fnExactExpireLocksUptoRow : OpenClaim := { program := "ytknnniaoboaghaa", sum := "757e79d41938c86e4c360e70c9feb5f36afcd040aae3383090b69e8f3cde70eb", func := "loop.example/g00292/laws.FnExactExpireLocks", spec := "fnExactExpireLocks", unfollowed := true, recurses := true, apart := false, narrowed := true }
def FnExactExpireLocksUptoSaid : Prop := fnExactExpireLocksUptoRow.holds Try.pinned (OpenSpec.upto fnExactExpireLocksSpec)

/-- 'laws.FnFence', WHERE WHAT IT READS IS OF BULK AT MOST 1048576: true; the input reads as it did. -/
def fnFenceUptoRow : OpenClaim := { program := "ytknnniaoboaghaa", sum := "757e79d41938c86e4c360e70c9feb5f36afcd040aae3383090b69e8f3cde70eb", func := "loop.example/g00292/laws.FnFence", spec := "fnFence", inPlace := ["internal/bytealg.abigen_runtime_cmpstring", "slices.overlaps[loop.example/g00292/impl.Lock]", "slices.overlaps[loop.example/g00292/impl.Seen]"], unfollowed := true, recurses := true, apart := false, narrowed := true }
def FnFenceUptoSaid : Prop := fnFenceUptoRow.holds Try.pinned (OpenSpec.upto fnFenceSpec)

/-- 'laws.FnOnce', WHERE WHAT IT READS IS OF BULK AT MOST 1048576: true; the input reads as it did. -/
def fnOnceUptoRow : OpenClaim := { program := "ytknnniaoboaghaa", sum := "757e79d41938c86e4c360e70c9feb5f36afcd040aae3383090b69e8f3cde70eb", func := "loop.example/g00292/laws.FnOnce", spec := "fnOnce", inPlace := ["internal/bytealg.abigen_runtime_cmpstring", "slices.overlaps[loop.example/g00292/impl.Lock]", "slices.overlaps[loop.example/g00292/impl.Seen]"], unfollowed := true, recurses := true, apart := false, narrowed := true }
def FnOnceUptoSaid : Prop := fnOnceUptoRow.holds Try.pinned (OpenSpec.upto fnOnceSpec)

/-- 'laws.FnLocks', WHERE WHAT IT READS IS OF BULK AT MOST 1048576: true; the input reads as it did. -/
def fnLocksUptoRow : OpenClaim := { program := "ytknnniaoboaghaa", sum := "757e79d41938c86e4c360e70c9feb5f36afcd040aae3383090b69e8f3cde70eb", func := "loop.example/g00292/laws.FnLocks", spec := "fnLocks", inPlace := ["internal/bytealg.abigen_runtime_cmpstring", "slices.overlaps[loop.example/g00292/impl.Lock]", "slices.overlaps[loop.example/g00292/impl.Seen]"], unfollowed := true, recurses := true, apart := false, narrowed := true }
def FnLocksUptoSaid : Prop := fnLocksUptoRow.holds Try.pinned (OpenSpec.upto fnLocksSpec)

/-- 'laws.FnExactApplyRequest', WHERE WHAT IT READS IS OF BULK AT MOST 1048576: true; the input reads as it did. -/
def fnExactApplyRequestUptoRow : OpenClaim := { program := "ytknnniaoboaghaa", sum := "757e79d41938c86e4c360e70c9feb5f36afcd040aae3383090b69e8f3cde70eb", func := "loop.example/g00292/laws.FnExactApplyRequest", spec := "fnExactApplyRequest", inPlace := ["internal/bytealg.abigen_runtime_cmpstring", "slices.overlaps[loop.example/g00292/impl.Lock]", "slices.overlaps[loop.example/g00292/impl.Seen]"], unfollowed := true, recurses := true, apart := false, narrowed := true }
def FnExactApplyRequestUptoSaid : Prop := fnExactApplyRequestUptoRow.holds Try.pinned (OpenSpec.upto fnExactApplyRequestSpec)

end Rows
end Go.Proofs.Ytknnniaoboaghaa
